import PyProof.Rows.All
import PySem.Challenge.RW_slipslater_k03_heaps_of_slips
import Wide.All
import OpenK.AllK
import Wide.FinOn
import HandS.ForMost
import HandS.ForExc
import HandS.Conv
import HandS.IsInst
import HandS.Star
import HandS.Style
import HandS.TupAny
import HandS.TupMul
import HandS.Deep
import HandS.Wide
import HandS.Flow
import HandS.CallSlots
import HandS.ExcField
import HandS.TryMany
import HandS.MakeKw
import HandS.MakeKwOnly
import HandS.Defaults
import HandS.SortInts
import HandS.SortRule
import HandS.ExcInit
import HandS.Codes
import HandS.Zip
import KE.KExcSuper
import PyProof.ReprRoads
import PyProof.ReprLen
set_option Elab.async false
set_option linter.all false
set_option maxRecDepth 100000
set_option maxHeartbeats 4000000
set_option autoImplicit false
namespace Mi
open PySem L2

/-! ## data, stores, outcomes -/
inductive D where
  | non | bl (b : Bool) | int (i : Int) | str (s : Str) | tup (xs : List D) | fl (xs : List D) | rl (xs : List D) | ref (n : Nat) | glob (x : Str)

inductive MO where
  | lst (xs : List D)
  | dk (kvs : List (Key × D))
  | dt (kvs : List (List Key × D))
  | ins (c : Str) (fs : List (Str × D))

abbrev Sto := List MO
abbrev En := List (Option D)

inductive Out (α : Type) where
  | ok (a : α) (st : Sto)
  | exc (x : Str) (at_ : Option D) (st : Sto)
  | bad

def Out.bind {α β : Type} (o : Out α) (k : α → Sto → Out β) : Out β :=
  match o with
  | .ok a st => k a st
  | .exc x v st => .exc x v st
  | .bad => .bad

inductive SO where
  | nx (e : En) (st : Sto)
  | rt (d : D) (st : Sto)
  | bk (e : En) (st : Sto)
  | ct (e : En) (st : Sto)
  | exc (x : Str) (at_ : Option D) (e : En) (st : Sto)
  | bad

abbrev EM := En → Sto → Out D
abbrev TM := En → Sto → Out Bool
abbrev AM := En → Sto → Out (List D)
abbrev SM := En → Sto → SO

/-! ## what stands for what -/
structure Gn where
  K : PySem.W.Frag
  mg : Str → Option Value

/-- a thing that is read alone: not among the places that may change -/
def Fz (m p : List Addr) (H : Hp) (a : Addr) (u : HO) : Prop := Rd H a u ∧ a ∉ m ∧ a ∉ p
def FzT (m p : List Addr) (H : Hp) (a : Addr) (vs : List V) : Prop := H a = some (.tup vs) ∧ a ∉ m ∧ a ∉ p
/-- tuples of the written part are none of ours -/
def KTup (_ : PySem.W.Frag) (_ : Addr) (_ : List V) : Prop := False
def KLst (K : PySem.W.Frag) (a : Addr) (xs : List V) : Prop :=
  ∃ (o : Obj) (its : Array Value) (n : Nat), K.lookup a = some o ∧ o.cls = .type "list" ∧ o.dict = none ∧ o.data = .seq its n ∧ its.size ≤ sizeLine ∧ Vals xs its.toList

mutual
def Rep (G : Gn) (m p : List Addr) (H : Hp) : D → V → Prop
  | .non, v => v = .non
  | .bl b, v => v = .bl b
  | .int i, v => v = .int i
  | .str s, v => v = .str s
  | .tup ds, v => ∃ a vs, v = .ref a ∧ (FzT m p H a vs ∨ KTup G.K a vs) ∧ Reps G m p H ds vs
  | .fl ds, v => ∃ a vs, v = .ref a ∧ (H a = some (.lst vs) ∧ a ∉ m ∧ a ∉ p) ∧ Reps G m p H ds vs
  | .rl ds, v => ∃ a vs, v = .ref a ∧ (Fz m p H a (.lst vs) ∨ KLst G.K a vs) ∧ Reps G m p H ds vs
  | .ref n, v => ∃ a, v = .ref a ∧ m[n]? = some a
  | .glob x, v => ∃ a, v = .ref a ∧ G.mg x = some (.ref a)
def Reps (G : Gn) (m p : List Addr) (H : Hp) : List D → List V → Prop
  | [], vs => vs = []
  | d :: ds, vs => ∃ v ws, vs = v :: ws ∧ Rep G m p H d v ∧ Reps G m p H ds ws
end

structure Ext (m : List Addr) (H : Hp) (m' : List Addr) (H' : Hp) : Prop where
  pre : ∃ l, m' = m ++ l ∧ ∀ a ∈ l, H a = none
  keep : ∀ a o, H a = some o → a ∉ m → H' a = some o
  live : ∀ a ∈ m, H a ≠ none → H' a ≠ none

theorem Ext.refl {m : List Addr} {H : Hp} : Ext m H m H := ⟨⟨[], by simp, by simp⟩, fun _ _ h _ => h, fun _ _ h => h⟩
theorem Ext.back {m m' : List Addr} {H H' : Hp} (e : Ext m H m' H') {a : Addr} (h : H' a = none) : H a = none := by
  cases q : H a with
  | none => rfl
  | some o =>
    by_cases hm : a ∈ m
    · exact absurd h (e.live a hm (by rw [q]; intro z; cases z))
    · rw [e.keep a o q hm] at h; cases h
theorem Ext.trans {m m1 m2 : List Addr} {H H1 H2 : Hp} (a : Ext m H m1 H1) (b : Ext m1 H1 m2 H2) : Ext m H m2 H2 := by
  obtain ⟨l, rfl, hl⟩ := a.pre
  obtain ⟨l2, rfl, hl2⟩ := b.pre
  have nl : ∀ x o, H x = some o → x ∉ l := fun x o h hx => by rw [hl x hx] at h; cases h
  refine ⟨⟨l ++ l2, by simp, fun x hx => ?_⟩, fun x o h hm => ?_, fun x hm h => ?_⟩
  · rcases List.mem_append.mp hx with h | h
    · exact hl x h
    · exact a.back (hl2 x h)
  · exact b.keep x o (a.keep x o h hm) (fun hx => by
      rcases List.mem_append.mp hx with h' | h'
      · exact hm h'
      · exact nl x o h h')
  · exact b.live x (List.mem_append_left _ hm) (a.live x hm h)
theorem Ext.new {m : List Addr} {H : Hp} {q : Addr} {o : HO} (h : H q = none) : Ext m H m (upd H q o) :=
  ⟨⟨[], by simp, by simp⟩, fun a u e _ => by rw [upd_ne (ne_of_none e h)]; exact e, fun a _ e z => by
    by_cases hq : a = q
    · rw [hq] at e; exact e h
    · rw [upd_ne hq] at z; exact e z⟩
/-- a new place that may change -/
theorem Ext.own {m : List Addr} {H : Hp} {q : Addr} {o : HO} (h : H q = none) : Ext m H (m ++ [q]) (upd H q o) :=
  ⟨⟨[q], rfl, fun a ha => by rw [List.mem_singleton.mp ha]; exact h⟩, (Ext.new h).keep, (Ext.new h).live⟩
/-- a place of ours changes -/
theorem Ext.chg {m : List Addr} {H : Hp} {q : Addr} {o : HO} (h : q ∈ m) : Ext m H m (upd H q o) :=
  ⟨⟨[], by simp, by simp⟩, fun a u e hm => by rw [upd_ne (fun z : a = q => hm (by rw [z]; exact h))]; exact e, fun a _ e z => by
    by_cases hq : a = q
    · rw [hq, upd_same] at z; cases z
    · rw [upd_ne hq] at z; exact e z⟩

theorem Ext.nin {m m' : List Addr} {H H' : Hp} (e : Ext m H m' H') {a : Addr} {o : HO} (h : H a = some o) (hm : a ∉ m) : a ∉ m' := by
  obtain ⟨l, rfl, hl⟩ := e.pre
  intro hx
  rcases List.mem_append.mp hx with h' | h'
  · exact hm h'
  · rw [hl a h'] at h; cases h
theorem Ext.idx {m m' : List Addr} {H H' : Hp} (e : Ext m H m' H') {n : Nat} {a : Addr} (h : m[n]? = some a) : m'[n]? = some a := by
  obtain ⟨l, rfl, _⟩ := e.pre
  rw [List.getElem?_append_left (List.getElem?_eq_some_iff.mp h).1]; exact h
theorem Fz.ext {m m' p : List Addr} {H H' : Hp} {a : Addr} {u : HO} (e : Ext m H m' H') (h : Fz m p H a u) : Fz m' p H' a u := by
  obtain ⟨r, h1, h2⟩ := h
  rcases r with r | ⟨o, r⟩
  · exact ⟨.inl (e.keep _ _ r h1), e.nin r h1, h2⟩
  · exact ⟨.inr ⟨o, e.keep _ _ r h1⟩, e.nin r h1, h2⟩

theorem FzT.ext {m m' p : List Addr} {H H' : Hp} {a : Addr} {u : List V} (e : Ext m H m' H') (h : FzT m p H a u) : FzT m' p H' a u :=
  ⟨e.keep _ _ h.1 h.2.1, e.nin h.1 h.2.1, h.2.2⟩

mutual
theorem Rep.ext {G : Gn} {m m' p : List Addr} {H H' : Hp} (e : Ext m H m' H') : ∀ (d : D) (v : V), Rep G m p H d v → Rep G m' p H' d v
  | .non, _, h => by unfold Rep at h ⊢; exact h
  | .bl _, _, h => by unfold Rep at h ⊢; exact h
  | .int _, _, h => by unfold Rep at h ⊢; exact h
  | .str _, _, h => by unfold Rep at h ⊢; exact h
  | .tup ds, _, h => by
    unfold Rep at h ⊢
    obtain ⟨a, vs, e1, h1, h2⟩ := h
    exact ⟨a, vs, e1, h1.imp (FzT.ext e) id, Reps.ext e ds vs h2⟩
  | .fl ds, _, h => by
    unfold Rep at h ⊢
    obtain ⟨a, vs, e1, ⟨h1, h3, h4⟩, h2⟩ := h
    exact ⟨a, vs, e1, ⟨e.keep _ _ h1 h3, e.nin h1 h3, h4⟩, Reps.ext e ds vs h2⟩
  | .rl ds, _, h => by
    unfold Rep at h ⊢
    obtain ⟨a, vs, e1, h1, h2⟩ := h
    exact ⟨a, vs, e1, h1.imp (Fz.ext e) id, Reps.ext e ds vs h2⟩
  | .ref n, _, h => by
    unfold Rep at h ⊢
    obtain ⟨a, e1, h1⟩ := h
    exact ⟨a, e1, e.idx h1⟩
  | .glob x, _, h => by unfold Rep at h ⊢; exact h
theorem Reps.ext {G : Gn} {m m' p : List Addr} {H H' : Hp} (e : Ext m H m' H') : ∀ (ds : List D) (vs : List V), Reps G m p H ds vs → Reps G m' p H' ds vs
  | [], _, h => by unfold Reps at h ⊢; exact h
  | d :: ds, _, h => by
    unfold Reps at h ⊢
    obtain ⟨v, ws, e1, h1, h2⟩ := h
    exact ⟨v, ws, e1, Rep.ext e d v h1, Reps.ext e ds ws h2⟩
end

section
variable {G : Gn} {m p : List Addr} {H : Hp} {d : D} {ds : List D} {v : V} {vs : List V}
theorem rep_non : Rep G m p H .non v ↔ v = .non := by unfold Rep; exact Iff.rfl
theorem rep_bl {b : Bool} : Rep G m p H (.bl b) v ↔ v = .bl b := by unfold Rep; exact Iff.rfl
theorem rep_int {i : Int} : Rep G m p H (.int i) v ↔ v = .int i := by unfold Rep; exact Iff.rfl
theorem rep_str {s : Str} : Rep G m p H (.str s) v ↔ v = .str s := by unfold Rep; exact Iff.rfl
theorem rep_tup : Rep G m p H (.tup ds) v ↔ ∃ a vs, v = .ref a ∧ (FzT m p H a vs ∨ KTup G.K a vs) ∧ Reps G m p H ds vs := by unfold Rep; exact Iff.rfl
theorem rep_fl : Rep G m p H (.fl ds) v ↔ ∃ a vs, v = .ref a ∧ (H a = some (.lst vs) ∧ a ∉ m ∧ a ∉ p) ∧ Reps G m p H ds vs := by unfold Rep; exact Iff.rfl
theorem rep_rl : Rep G m p H (.rl ds) v ↔ ∃ a vs, v = .ref a ∧ (Fz m p H a (.lst vs) ∨ KLst G.K a vs) ∧ Reps G m p H ds vs := by unfold Rep; exact Iff.rfl
theorem rep_ref {n : Nat} : Rep G m p H (.ref n) v ↔ ∃ a, v = .ref a ∧ m[n]? = some a := by unfold Rep; exact Iff.rfl
theorem rep_glob {x : Str} : Rep G m p H (.glob x) v ↔ ∃ a, v = .ref a ∧ G.mg x = some (.ref a) := by unfold Rep; exact Iff.rfl
theorem reps_nil : Reps G m p H [] vs ↔ vs = [] := by unfold Reps; exact Iff.rfl
theorem reps_cons : Reps G m p H (d :: ds) vs ↔ ∃ v ws, vs = v :: ws ∧ Rep G m p H d v ∧ Reps G m p H ds ws := by
  constructor
  · intro h; unfold Reps at h; exact h
  · intro h; unfold Reps; exact h
theorem Fz.sqT {a : Addr} {K : PySem.W.Frag} (h : FzT m p H a vs ∨ KTup K a vs) : SqT K H a vs := h.elim (fun z => .inl (.inl z.1)) False.elim
theorem FzT.at' {a : Addr} {K : PySem.W.Frag} (h : FzT m p H a vs ∨ KTup K a vs) : H a = some (.tup vs) := h.elim (fun z => z.1) False.elim
theorem Fz.sqL {a : Addr} {K : PySem.W.Frag} (h : Fz m p H a (.lst vs) ∨ KLst K a vs) : SqL K H a vs := h.imp (·.1) id
end
theorem Reps.length {G : Gn} {m p : List Addr} {H : Hp} : ∀ {ds : List D} {vs : List V}, Reps G m p H ds vs → vs.length = ds.length
  | [], _, h => by rw [reps_nil.mp h]; rfl
  | d :: ds, _, h => by
    obtain ⟨v, ws, rfl, _, h2⟩ := reps_cons.mp h
    simp [Reps.length h2]
theorem Reps.get {G : Gn} {m p : List Addr} {H : Hp} : ∀ {ds : List D} {vs : List V} {i : Nat} {d : D}, Reps G m p H ds vs → ds[i]? = some d → ∃ v, vs[i]? = some v ∧ Rep G m p H d v
  | [], _, _, _, _, e => by simp at e
  | d :: ds, _, 0, _, h, e => by
    obtain ⟨v, ws, rfl, h1, _⟩ := reps_cons.mp h
    simp at e; subst e
    exact ⟨v, by simp, h1⟩
  | d :: ds, _, i + 1, _, h, e => by
    obtain ⟨v, ws, rfl, _, h2⟩ := reps_cons.mp h
    obtain ⟨w, e1, r⟩ := Reps.get (i := i) h2 (by simpa using e)
    exact ⟨w, by simpa using e1, r⟩
theorem Reps.getV {G : Gn} {m p : List Addr} {H : Hp} : ∀ {ds : List D} {vs : List V} {i : Nat} {v : V}, Reps G m p H ds vs → vs[i]? = some v → ∃ d, ds[i]? = some d ∧ Rep G m p H d v
  | [], _, _, _, h, e => by rw [reps_nil.mp h] at e; simp at e
  | d :: ds, _, 0, _, h, e => by
    obtain ⟨v, ws, rfl, h1, _⟩ := reps_cons.mp h
    simp at e; subst e
    exact ⟨d, by simp, h1⟩
  | d :: ds, _, i + 1, _, h, e => by
    obtain ⟨v, ws, rfl, _, h2⟩ := reps_cons.mp h
    obtain ⟨w, e1, r⟩ := Reps.getV (i := i) h2 (by simpa using e)
    exact ⟨w, by simpa using e1, r⟩
theorem Reps.append {G : Gn} {m p : List Addr} {H : Hp} : ∀ {ds es : List D} {vs ws : List V}, Reps G m p H ds vs → Reps G m p H es ws → Reps G m p H (ds ++ es) (vs ++ ws)
  | [], _, _, _, h, h' => by rw [reps_nil.mp h]; exact h'
  | d :: ds, _, _, _, h, h' => by
    obtain ⟨v, us, rfl, h1, h2⟩ := reps_cons.mp h
    exact reps_cons.mpr ⟨v, us ++ _, rfl, h1, Reps.append h2 h'⟩
theorem Reps.one {G : Gn} {m p : List Addr} {H : Hp} {d : D} {v : V} (h : Rep G m p H d v) : Reps G m p H [d] [v] := reps_cons.mpr ⟨v, [], rfl, h, reps_nil.mpr rfl⟩
theorem Reps.set {G : Gn} {m p : List Addr} {H : Hp} {d : D} {v : V} (h : Rep G m p H d v) : ∀ {ds : List D} {vs : List V} {i : Nat}, Reps G m p H ds vs → Reps G m p H (ds.set i d) (vs.set i v)
  | [], _, _, r => by rw [reps_nil.mp r]; exact reps_nil.mpr rfl
  | e :: ds, _, 0, r => by
    obtain ⟨w, us, rfl, _, h2⟩ := reps_cons.mp r
    exact reps_cons.mpr ⟨v, us, rfl, h, h2⟩
  | e :: ds, _, i + 1, r => by
    obtain ⟨w, us, rfl, h1, h2⟩ := reps_cons.mp r
    exact reps_cons.mpr ⟨w, us.set i v, rfl, h1, Reps.set h h2⟩
theorem Reps.take {G : Gn} {m p : List Addr} {H : Hp} : ∀ {ds : List D} {vs : List V} (n : Nat), Reps G m p H ds vs → Reps G m p H (ds.take n) (vs.take n)
  | _, _, 0, _ => reps_nil.mpr rfl
  | [], _, n + 1, r => by rw [reps_nil.mp r]; exact reps_nil.mpr rfl
  | e :: ds, _, n + 1, r => by
    obtain ⟨w, us, rfl, h1, h2⟩ := reps_cons.mp r
    exact reps_cons.mpr ⟨w, us.take n, rfl, h1, Reps.take n h2⟩
theorem Reps.drop {G : Gn} {m p : List Addr} {H : Hp} : ∀ {ds : List D} {vs : List V} (n : Nat), Reps G m p H ds vs → Reps G m p H (ds.drop n) (vs.drop n)
  | _, _, 0, h => h
  | [], _, n + 1, r => by rw [reps_nil.mp r]; exact reps_nil.mpr rfl
  | e :: ds, _, n + 1, r => by
    obtain ⟨w, us, rfl, h1, h2⟩ := reps_cons.mp r
    exact Reps.drop n h2
theorem Reps.rev {G : Gn} {m p : List Addr} {H : Hp} : ∀ {ds : List D} {vs : List V}, Reps G m p H ds vs → Reps G m p H ds.reverse vs.reverse
  | [], _, r => by rw [reps_nil.mp r]; exact reps_nil.mpr rfl
  | e :: ds, _, r => by
    obtain ⟨w, us, rfl, h1, h2⟩ := reps_cons.mp r
    rw [List.reverse_cons, List.reverse_cons]
    exact (Reps.rev h2).append (.one h1)
theorem Reps.eraseIdx {G : Gn} {m p : List Addr} {H : Hp} : ∀ {ds : List D} {vs : List V} (n : Nat), Reps G m p H ds vs → Reps G m p H (ds.eraseIdx n) (vs.eraseIdx n)
  | [], _, n, r => by rw [reps_nil.mp r]; exact reps_nil.mpr (by simp)
  | e :: ds, _, 0, r => by
    obtain ⟨w, us, rfl, h1, h2⟩ := reps_cons.mp r
    exact h2
  | e :: ds, _, n + 1, r => by
    obtain ⟨w, us, rfl, h1, h2⟩ := reps_cons.mp r
    exact reps_cons.mpr ⟨w, us.eraseIdx n, rfl, h1, Reps.eraseIdx n h2⟩
theorem Reps.split {G : Gn} {m p : List Addr} {H : Hp} : ∀ {ds es : List D} {vs : List V}, Reps G m p H (ds ++ es) vs → ∃ us ws, vs = us ++ ws ∧ Reps G m p H ds us ∧ Reps G m p H es ws
  | [], _, vs, r => ⟨[], vs, rfl, reps_nil.mpr rfl, r⟩
  | e :: ds, _, _, r => by
    obtain ⟨w, us, rfl, h1, h2⟩ := reps_cons.mp r
    obtain ⟨us1, ws, rfl, h3, h4⟩ := Reps.split h2
    exact ⟨w :: us1, ws, rfl, reps_cons.mpr ⟨w, us1, rfl, h1, h3⟩, h4⟩
theorem Reps.rep {G : Gn} {m p : List Addr} {H : Hp} {ds : List D} {vs : List V} (r : Reps G m p H ds vs) : ∀ n, Reps G m p H (List.replicate n ds).flatten (List.replicate n vs).flatten
  | 0 => reps_nil.mpr rfl
  | n + 1 => by
    rw [List.replicate_succ, List.replicate_succ, List.flatten_cons, List.flatten_cons]
    exact r.append (Reps.rep r n)

/-! ## stores -/
def FsR (G : Gn) (m p : List Addr) (H : Hp) : List (Str × D) → List (Str × V) → Prop
  | [], gs => gs = []
  | (f, d) :: fs, gs => ∃ v hs, gs = (f, v) :: hs ∧ Rep G m p H d v ∧ FsR G m p H fs hs
def KvR {κ : Type} (G : Gn) (m p : List Addr) (H : Hp) : List (κ × D) → List (κ × V) → Prop
  | [], gs => gs = []
  | (f, d) :: fs, gs => ∃ v hs, gs = (f, v) :: hs ∧ Rep G m p H d v ∧ KvR G m p H fs hs

def MoR (G : Gn) (m p : List Addr) (H : Hp) : MO → Addr → Prop
  | .lst ds, a => ∃ vs, H a = some (.lst vs) ∧ Reps G m p H ds vs
  | .dk kvs, a => ∃ ws, H a = some (.dK ws) ∧ KvR G m p H kvs ws
  | .dt kvs, a => ∃ ws, H a = some (.dT ws) ∧ KvR G m p H kvs ws
  | .ins c fs, a => ∃ C dx gs, G.mg c = some (.ref C) ∧ H a = some (.ins C dx gs) ∧ KvR G m p H fs gs

structure SR (G : Gn) (m p : List Addr) (H : Hp) (st : Sto) : Prop where
  nd : (m ++ p).Nodup
  len : m.length = st.length
  ob : ∀ (n : Nat) (a : Addr) (o : MO), m[n]? = some a → st[n]? = some o → MoR G m p H o a
  lp : ∀ a ∈ p, H a ≠ none

theorem KvR.ext {κ : Type} {G : Gn} {m m' p : List Addr} {H H' : Hp} (e : Ext m H m' H') : ∀ {ds : List (κ × D)} {vs : List (κ × V)}, KvR G m p H ds vs → KvR G m' p H' ds vs
  | [], _, h => h
  | (f, d) :: ds, _, h => by
    obtain ⟨v, ws, e1, h1, h2⟩ := h
    exact ⟨v, ws, e1, Rep.ext e d v h1, KvR.ext e h2⟩
theorem SR.live {G : Gn} {m p : List Addr} {H : Hp} {st : Sto} (S : SR G m p H st) : ∀ a ∈ m, H a ≠ none := fun a ha z => by
  obtain ⟨n, hn, e⟩ := List.mem_iff_getElem.mp ha
  have e1 : m[n]? = some a := by rw [List.getElem?_eq_getElem hn, e]
  have h2 : n < st.length := by rw [← S.len]; exact hn
  have q := S.ob n a _ e1 (List.getElem?_eq_getElem h2)
  cases ho : st[n] with
  | lst ds => rw [ho] at q; obtain ⟨_, h, _⟩ := q; rw [z] at h; cases h
  | dk ds => rw [ho] at q; obtain ⟨_, h, _⟩ := q; rw [z] at h; cases h
  | dt ds => rw [ho] at q; obtain ⟨_, h, _⟩ := q; rw [z] at h; cases h
  | ins c ds => rw [ho] at q; obtain ⟨_, _, _, _, h, _⟩ := q; rw [z] at h; cases h
theorem SR.get {G : Gn} {m p : List Addr} {H : Hp} {st : Sto} (S : SR G m p H st) {n : Nat} {a : Addr} (h : m[n]? = some a) : ∃ o, st[n]? = some o ∧ MoR G m p H o a := by
  have h2 : n < st.length := by rw [← S.len]; exact (List.getElem?_eq_some_iff.mp h).1
  exact ⟨st[n], List.getElem?_eq_getElem h2, S.ob n a _ h (List.getElem?_eq_getElem h2)⟩
theorem SR.adr {G : Gn} {m p : List Addr} {H : Hp} {st : Sto} (S : SR G m p H st) {n : Nat} {o : MO} (h : st[n]? = some o) : ∃ a, m[n]? = some a ∧ MoR G m p H o a := by
  have h2 : n < m.length := by rw [S.len]; exact (List.getElem?_eq_some_iff.mp h).1
  exact ⟨m[n], List.getElem?_eq_getElem h2, S.ob n _ _ (List.getElem?_eq_getElem h2) h⟩
theorem MoR.ext {G : Gn} {m m' p : List Addr} {H H' : Hp} (e : Ext m H m' H') {a : Addr} (ha : H' a = H a) : ∀ {o : MO}, MoR G m p H o a → MoR G m' p H' o a
  | .lst ds, ⟨vs, h, r⟩ => ⟨vs, ha.trans h, Reps.ext e _ _ r⟩
  | .dk ds, ⟨vs, h, r⟩ => ⟨vs, ha.trans h, r.ext e⟩
  | .dt ds, ⟨vs, h, r⟩ => ⟨vs, ha.trans h, r.ext e⟩
  | .ins c ds, ⟨C, dx, gs, hc, h, r⟩ => ⟨C, dx, gs, hc, ha.trans h, r.ext e⟩
/-- something new that is read alone -/
theorem SR.new {G : Gn} {m p : List Addr} {H : Hp} {st : Sto} (S : SR G m p H st) {q : Addr} {o : HO} (h : H q = none) : SR G m p (upd H q o) st := by
  refine ⟨S.nd, S.len, fun n a u h1 h2 => ?_, fun a ha z => ?_⟩
  · have r := S.ob n a u h1 h2
    have hne : a ≠ q := fun z => S.live a (List.mem_of_getElem? h1) (z ▸ h)
    exact r.ext (Ext.new h) (upd_ne hne)
  · have hne : a ≠ q := fun z => S.lp a ha (z ▸ h)
    rw [upd_ne hne] at z; exact S.lp a ha z
/-- a new place -/
theorem SR.own {G : Gn} {m p : List Addr} {H : Hp} {st : Sto} (S : SR G m p H st) {q : Addr} {o : HO} {u : MO} (h : H q = none) (hu : MoR G (m ++ [q]) p (upd H q o) u q) : SR G (m ++ [q]) p (upd H q o) (st ++ [u]) := by
  have hm : q ∉ m := fun z => S.live q z h
  have hp : q ∉ p := fun z => S.lp q z h
  have nd := List.nodup_append.mp S.nd
  refine ⟨?_, by simp [S.len], fun n a w h1 h2 => ?_, (S.new (o := o) h).lp⟩
  · rw [List.append_assoc]
    refine List.nodup_append.mpr ⟨nd.1, List.nodup_cons.mpr ⟨hp, nd.2.1⟩, fun a ha b hb => ?_⟩
    rcases List.mem_cons.mp hb with rfl | hb
    · exact fun z => hm (z ▸ ha)
    · exact nd.2.2 a ha b hb
  · by_cases hn : n < m.length
    · rw [List.getElem?_append_left hn] at h1
      rw [List.getElem?_append_left (by rw [← S.len]; exact hn)] at h2
      have r := S.ob n a w h1 h2
      have hne : a ≠ q := fun z => S.live a (List.mem_of_getElem? h1) (z ▸ h)
      exact r.ext (Ext.own h) (upd_ne hne)
    · have hn : m.length ≤ n := Nat.le_of_not_lt hn
      rw [List.getElem?_append_right hn] at h1
      rw [List.getElem?_append_right (by rw [← S.len]; exact hn)] at h2
      have e0 : n - m.length = 0 := by
        cases q0 : n - m.length with
        | zero => rfl
        | succ k => rw [q0] at h1; simp at h1
      rw [e0] at h1
      rw [← S.len, e0] at h2
      simp at h1 h2
      subst h1; subst h2
      exact hu
/-- a place changes -/
theorem SR.chg {G : Gn} {m p : List Addr} {H : Hp} {st : Sto} (S : SR G m p H st) {n : Nat} {q : Addr} {o : HO} {u : MO} (hq : m[n]? = some q) (hu : MoR G m p (upd H q o) u q) : SR G m p (upd H q o) (st.set n u) := by
  have hm : q ∈ m := List.mem_of_getElem? hq
  have nd := List.nodup_append.mp S.nd
  refine ⟨S.nd, by simp [S.len], fun k a w h1 h2 => ?_, fun a ha z => ?_⟩
  · by_cases hk : n = k
    · subst hk
      rw [hq] at h1; cases h1
      have hlt : n < st.length := by rw [← S.len]; exact (List.getElem?_eq_some_iff.mp hq).1
      rw [List.getElem?_set_self hlt] at h2; cases h2
      exact hu
    · rw [List.getElem?_set_ne hk] at h2
      have hne : a ≠ q := fun z => by
        subst z
        exact hk ((List.getElem?_inj (List.getElem?_eq_some_iff.mp hq).1 nd.1).mp (hq.trans h1.symm))
      exact (S.ob k a w h1 h2).ext (Ext.chg hm) (upd_ne hne)
  · have hne : a ≠ q := fun e => by subst e; exact nd.2.2 a hm a ha rfl
    rw [upd_ne hne] at z; exact S.lp a ha z

/-! ## frames -/
abbrev XSlot := Option (Nat × Addr × Addr)
def EnvR (G : Gn) (m p : List Addr) (H : Hp) (xs : XSlot) (env : En) (σ : St) : Prop :=
  σ.length = env.length ∧ ∀ i d, env[i]? = some (some d) →
    (∃ a dx, xs = some (i, a, dx) ∧ σ[i]? = some (some (.ref a)) ∧ dx ∉ m ∧ ∃ fs v, H dx = some (.xd fs) ∧ fs.lookup ("at" : Str) = some v ∧ Rep G m p H d v) ∨
    ((∀ q, xs ≠ some (i, q)) ∧ ∃ v, σ[i]? = some (some v) ∧ Rep G m p H d v)
theorem EnvR.ext {G : Gn} {m m' p : List Addr} {H H' : Hp} {xs : XSlot} {env : En} {σ : St} (h : EnvR G m p H xs env σ) (e : Ext m H m' H') : EnvR G m' p H' xs env σ :=
  ⟨h.1, fun i d hi => (h.2 i d hi).imp (fun ⟨a, dx, h1, h2, h3, fs, v, h4, h5, h6⟩ => ⟨a, dx, h1, h2, e.nin h4 h3, fs, v, e.keep _ _ h4 h3, h5, Rep.ext e d v h6⟩) fun ⟨h1, v, h2, h3⟩ => ⟨h1, v, h2, Rep.ext e d v h3⟩⟩
theorem EnvR.get {G : Gn} {m p : List Addr} {H : Hp} {xs : XSlot} {env : En} {σ : St} (h : EnvR G m p H xs env σ) {i : Nat} {d : D} (hi : env[i]? = some (some d)) (hx : ∀ q, xs ≠ some (i, q)) : ∃ v, σ[i]? = some (some v) ∧ Rep G m p H d v := by
  rcases h.2 i d hi with ⟨a, dx, h1, _⟩ | ⟨_, h2⟩
  · exact absurd h1 (hx _)
  · exact h2
theorem EnvR.set {G : Gn} {m p : List Addr} {H : Hp} {xs : XSlot} {env : En} {σ : St} (h : EnvR G m p H xs env σ) {i : Nat} {d : D} {v : V} (hx : ∀ q, xs ≠ some (i, q)) (r : Rep G m p H d v) : EnvR G m p H xs (env.set i (some d)) (σ.set i (some v)) := by
  refine ⟨by simp [h.1], fun k e hk => ?_⟩
  by_cases hik : i = k
  · subst hik
    have hlt : i < (env.set i (some d)).length := (List.getElem?_eq_some_iff.mp hk).1
    rw [List.length_set] at hlt
    rw [List.getElem?_set_self hlt] at hk
    cases hk
    exact .inr ⟨hx, v, List.getElem?_set_self (by rw [h.1]; exact hlt), r⟩
  · rw [List.getElem?_set_ne hik] at hk
    rw [List.getElem?_set_ne hik]
    exact h.2 k e hk
theorem EnvR.unset {G : Gn} {m p : List Addr} {H : Hp} {xs : XSlot} {env : En} {σ : St} (h : EnvR G m p H xs env σ) {i : Nat} {o : Option V} : EnvR G m p H xs (env.set i none) (σ.set i o) := by
  refine ⟨by simp [h.1], fun k e hk => ?_⟩
  by_cases hik : i = k
  · subst hik
    have hlt : i < (env.set i none).length := (List.getElem?_eq_some_iff.mp hk).1
    rw [List.length_set] at hlt
    rw [List.getElem?_set_self hlt] at hk
    cases hk
  · rw [List.getElem?_set_ne hik] at hk
    rw [List.getElem?_set_ne hik]
    exact h.2 k e hk

/-! ## readings out of outcomes -/
/-- an exception of our own: its class by name, its field at -/
def ExcR (G : Gn) (m p : List Addr) (H : Hp) (x : Str) (at_ : Option D) (cls : Value) (dx : Option Addr) : Prop :=
  G.mg x = some cls ∧ match at_ with
    | none => dx = none
    | some d => ∃ q fs v, dx = some q ∧ q ∉ m ∧ H q = some (.xd fs) ∧ fs.lookup ("at" : Str) = some v ∧ Rep G m p H d v

def OkD (G : Gn) (W : WX) (m p : List Addr) (H : Hp) (σ : St) (o : Out D) (Q : VK) : Prop :=
  match o with
  | .ok d st' => ∀ v m' H', Ext m H m' H' → SR G m' p H' st' → Rep G m' p H' d v → Q v H'
  | .exc x at_ st' => ∀ m' H' cls dx, Ext m H m' H' → SR G m' p H' st' → ExcR G m' p H' x at_ cls dx → W cls dx σ H'
  | .bad => False
def OkB (G : Gn) (W : WX) (m p : List Addr) (H : Hp) (σ : St) (o : Out Bool) (Q : Bool → Hp → Prop) : Prop :=
  match o with
  | .ok b st' => ∀ m' H', Ext m H m' H' → SR G m' p H' st' → Q b H'
  | .exc x at_ st' => ∀ m' H' cls dx, Ext m H m' H' → SR G m' p H' st' → ExcR G m' p H' x at_ cls dx → W cls dx σ H'
  | .bad => False
def OkA (G : Gn) (W : WX) (m p : List Addr) (H : Hp) (σ : St) (o : Out (List D)) (Q : List V → Hp → Prop) : Prop :=
  match o with
  | .ok ds st' => ∀ vs m' H', Ext m H m' H' → SR G m' p H' st' → Reps G m' p H' ds vs → Q vs H'
  | .exc x at_ st' => ∀ m' H' cls dx, Ext m H m' H' → SR G m' p H' st' → ExcR G m' p H' x at_ cls dx → W cls dx σ H'
  | .bad => False
def OkS (G : Gn) (W : WX) (xs : XSlot) (m p : List Addr) (H : Hp) (o : SO) (Dn : Ends) : Prop :=
  match o with
  | .nx e st' => ∀ σ' m' H', Ext m H m' H' → EnvR G m' p H' xs e σ' → SR G m' p H' st' → Dn.nx σ' H'
  | .rt d st' => ∀ v m' H', Ext m H m' H' → SR G m' p H' st' → Rep G m' p H' d v → Dn.rt v H'
  | .bk e st' => ∀ σ' m' H', Ext m H m' H' → EnvR G m' p H' xs e σ' → SR G m' p H' st' → Dn.bk σ' H'
  | .ct e st' => ∀ σ' m' H', Ext m H m' H' → EnvR G m' p H' xs e σ' → SR G m' p H' st' → Dn.ct σ' H'
  | .exc x at_ e st' => ∀ σ' m' H' cls dx, Ext m H m' H' → EnvR G m' p H' xs e σ' → SR G m' p H' st' → ExcR G m' p H' x at_ cls dx → W cls dx σ' H'
  | .bad => False

theorem OkD.ext {G : Gn} {W : WX} {m m1 p : List Addr} {H H1 : Hp} {σ : St} {o : Out D} {Q : VK} (h : OkD G W m p H σ o Q) (e : Ext m H m1 H1) : OkD G W m1 p H1 σ o Q := by
  cases o with
  | ok d st => exact fun v m' H' e' => h v m' H' (e.trans e')
  | exc x a st => exact fun m' H' c d e' => h m' H' c d (e.trans e')
  | bad => exact h
theorem OkB.ext {G : Gn} {W : WX} {m m1 p : List Addr} {H H1 : Hp} {σ : St} {o : Out Bool} {Q : Bool → Hp → Prop} (h : OkB G W m p H σ o Q) (e : Ext m H m1 H1) : OkB G W m1 p H1 σ o Q := by
  cases o with
  | ok d st => exact fun m' H' e' => h m' H' (e.trans e')
  | exc x a st => exact fun m' H' c d e' => h m' H' c d (e.trans e')
  | bad => exact h
theorem OkA.ext {G : Gn} {W : WX} {m m1 p : List Addr} {H H1 : Hp} {σ : St} {o : Out (List D)} {Q : List V → Hp → Prop} (h : OkA G W m p H σ o Q) (e : Ext m H m1 H1) : OkA G W m1 p H1 σ o Q := by
  cases o with
  | ok d st => exact fun v m' H' e' => h v m' H' (e.trans e')
  | exc x a st => exact fun m' H' c d e' => h m' H' c d (e.trans e')
  | bad => exact h
theorem OkS.ext {G : Gn} {W : WX} {xs : XSlot} {m m1 p : List Addr} {H H1 : Hp} {o : SO} {Dn : Ends} (h : OkS G W xs m p H o Dn) (e : Ext m H m1 H1) : OkS G W xs m1 p H1 o Dn := by
  cases o with
  | nx _ _ => exact fun v m' H' e' => h v m' H' (e.trans e')
  | rt _ _ => exact fun v m' H' e' => h v m' H' (e.trans e')
  | bk _ _ => exact fun v m' H' e' => h v m' H' (e.trans e')
  | ct _ _ => exact fun v m' H' e' => h v m' H' (e.trans e')
  | exc _ _ _ _ => exact fun s m' H' c d e' => h s m' H' c d (e.trans e')
  | bad => exact h

/-- what follows an expression -/
theorem OkD.andD {G : Gn} {W : WX} {m p : List Addr} {H : Hp} {σ : St} {o : Out D} {k : D → Sto → Out D} {Q P : VK} (h : OkD G W m p H σ (o.bind k) Q)
    (hp : ∀ d st1 v m1 H1, Ext m H m1 H1 → SR G m1 p H1 st1 → Rep G m1 p H1 d v → OkD G W m1 p H1 σ (k d st1) Q → P v H1) : OkD G W m p H σ o P := by
  cases o with
  | ok d st => exact fun v m1 H1 e s r => hp d st v m1 H1 e s r (OkD.ext h e)
  | exc x a st => exact h
  | bad => exact h
theorem OkB.andD {G : Gn} {W : WX} {m p : List Addr} {H : Hp} {σ : St} {o : Out D} {k : D → Sto → Out Bool} {Q : Bool → Hp → Prop} {P : VK} (h : OkB G W m p H σ (o.bind k) Q)
    (hp : ∀ d st1 v m1 H1, Ext m H m1 H1 → SR G m1 p H1 st1 → Rep G m1 p H1 d v → OkB G W m1 p H1 σ (k d st1) Q → P v H1) : OkD G W m p H σ o P := by
  cases o with
  | ok d st => exact fun v m1 H1 e s r => hp d st v m1 H1 e s r (OkB.ext h e)
  | exc x a st => exact h
  | bad => exact h
theorem OkA.andD {G : Gn} {W : WX} {m p : List Addr} {H : Hp} {σ : St} {o : Out D} {k : D → Sto → Out (List D)} {Q : List V → Hp → Prop} {P : VK} (h : OkA G W m p H σ (o.bind k) Q)
    (hp : ∀ d st1 v m1 H1, Ext m H m1 H1 → SR G m1 p H1 st1 → Rep G m1 p H1 d v → OkA G W m1 p H1 σ (k d st1) Q → P v H1) : OkD G W m p H σ o P := by
  cases o with
  | ok d st => exact fun v m1 H1 e s r => hp d st v m1 H1 e s r (OkA.ext h e)
  | exc x a st => exact h
  | bad => exact h
theorem OkD.andA {G : Gn} {W : WX} {m p : List Addr} {H : Hp} {σ : St} {o : Out (List D)} {k : List D → Sto → Out D} {Q : VK} {P : List V → Hp → Prop} (h : OkD G W m p H σ (o.bind k) Q)
    (hp : ∀ ds st1 vs m1 H1, Ext m H m1 H1 → SR G m1 p H1 st1 → Reps G m1 p H1 ds vs → OkD G W m1 p H1 σ (k ds st1) Q → P vs H1) : OkA G W m p H σ o P := by
  cases o with
  | ok d st => exact fun v m1 H1 e s r => hp d st v m1 H1 e s r (OkD.ext h e)
  | exc x a st => exact h
  | bad => exact h
theorem OkA.andA {G : Gn} {W : WX} {m p : List Addr} {H : Hp} {σ : St} {o : Out (List D)} {k : List D → Sto → Out (List D)} {Q P : List V → Hp → Prop} (h : OkA G W m p H σ (o.bind k) Q)
    (hp : ∀ ds st1 vs m1 H1, Ext m H m1 H1 → SR G m1 p H1 st1 → Reps G m1 p H1 ds vs → OkA G W m1 p H1 σ (k ds st1) Q → P vs H1) : OkA G W m p H σ o P := by
  cases o with
  | ok d st => exact fun v m1 H1 e s r => hp d st v m1 H1 e s r (OkA.ext h e)
  | exc x a st => exact h
  | bad => exact h
theorem OkB.andB {G : Gn} {W : WX} {m p : List Addr} {H : Hp} {σ : St} {o : Out Bool} {k : Bool → Sto → Out Bool} {Q P : Bool → Hp → Prop} (h : OkB G W m p H σ (o.bind k) Q)
    (hp : ∀ b st1 m1 H1, Ext m H m1 H1 → SR G m1 p H1 st1 → OkB G W m1 p H1 σ (k b st1) Q → P b H1) : OkB G W m p H σ o P := by
  cases o with
  | ok d st => exact fun m1 H1 e s => hp d st m1 H1 e s (OkB.ext h e)
  | exc x a st => exact h
  | bad => exact h
theorem OkD.andB {G : Gn} {W : WX} {m p : List Addr} {H : Hp} {σ : St} {o : Out Bool} {k : Bool → Sto → Out D} {Q : VK} {P : Bool → Hp → Prop} (h : OkD G W m p H σ (o.bind k) Q)
    (hp : ∀ b st1 m1 H1, Ext m H m1 H1 → SR G m1 p H1 st1 → OkD G W m1 p H1 σ (k b st1) Q → P b H1) : OkB G W m p H σ o P := by
  cases o with
  | ok d st => exact fun m1 H1 e s => hp d st m1 H1 e s (OkD.ext h e)
  | exc x a st => exact h
  | bad => exact h

/-! ## the judgements -/
abbrev gn (X : Cx) : Gn := ⟨X.K, X.mg⟩
def rdD (G : Gn) (W : WX) (xs : XSlot) (c : EM) : TE := fun σ H Q => ∃ m p env st, EnvR G m p H xs env σ ∧ SR G m p H st ∧ OkD G W m p H σ (c env st) Q
def rdB (G : Gn) (W : WX) (xs : XSlot) (c : TM) : TT := fun σ H Q => ∃ m p env st, EnvR G m p H xs env σ ∧ SR G m p H st ∧ OkB G W m p H σ (c env st) Q
def rdA (G : Gn) (W : WX) (xs : XSlot) (c : AM) : TA := fun σ H Q => ∃ m p env st, EnvR G m p H xs env σ ∧ SR G m p H st ∧ OkA G W m p H σ (c env st) Q
def rdS (G : Gn) (W : WX) (xs : XSlot) (c : SM) : TS := fun Dn σ H => ∃ m p env st, EnvR G m p H xs env σ ∧ SR G m p H st ∧ OkS G W xs m p H (c env st) Dn
def ME (X : Cx) (W : WX) (xs : XSlot) (e : Expr) (c : EM) : Prop := PE X e (rdD (gn X) W xs c)
def MT (X : Cx) (W : WX) (xs : XSlot) (e : Expr) (c : TM) : Prop := PT X e (rdB (gn X) W xs c)
def MW (X : Cx) (W : WX) (xs : XSlot) (e : Expr) (c : TM) : Prop := PW X e (rdB (gn X) W xs c)
def MA (X : Cx) (W : WX) (xs : XSlot) (es : List Expr) (c : AM) : Prop := PA X es (rdA (gn X) W xs c)
def MS (X : Cx) (W : WX) (xs : XSlot) (s : Stmt) (c : SM) : Prop := PS X s (rdS (gn X) W xs c)
def MSs (X : Cx) (W : WX) (xs : XSlot) (s : List Stmt) (c : SM) : Prop := PSs X s (rdS (gn X) W xs c)

theorem PEi {X : Cx} {e : Expr} {t t' : TE} (h : PE X e t) (k : ∀ σ H Q, t' σ H Q → t σ H Q) : PE X e t' := ⟨fun pins s σ H Q I q => h.run pins s σ H Q I (k σ H Q q)⟩
theorem PTi {X : Cx} {e : Expr} {t t' : TT} (h : PT X e t) (k : ∀ σ H Q, t' σ H Q → t σ H Q) : PT X e t' := ⟨fun pins s σ H Q I q => h.run pins s σ H Q I (k σ H Q q)⟩
theorem PWi {X : Cx} {e : Expr} {t t' : TT} (h : PW X e t) (k : ∀ σ H Q, t' σ H Q → t σ H Q) : PW X e t' := ⟨fun wh pins s σ H Q I q => h.run wh pins s σ H Q I (k σ H Q q)⟩
theorem PAi {X : Cx} {e : List Expr} {t t' : TA} (h : PA X e t) (k : ∀ σ H Q, t' σ H Q → t σ H Q) : PA X e t' := ⟨fun po pins s σ H Q I q => h.run po pins s σ H Q I (k σ H Q q)⟩
theorem PSi {X : Cx} {e : Stmt} {t t' : TS} (h : PS X e t) (k : ∀ Dn σ H, t' Dn σ H → t Dn σ H) : PS X e t' := ⟨fun pins s σ H Dn I q => h.run pins s σ H Dn I (k Dn σ H q)⟩
theorem PSsi {X : Cx} {e : List Stmt} {t t' : TS} (h : PSs X e t) (k : ∀ Dn σ H, t' Dn σ H → t Dn σ H) : PSs X e t' := ⟨fun pins s σ H Dn I q => h.run pins s σ H Dn I (k Dn σ H q)⟩

end Mi

namespace Mi
open PySem L2

/-! ## new lists and tuples -/
def mkL (own : Bool) (xs : List D) (st : Sto) : Out D := if own = true then .ok (.ref st.length) (st ++ [.lst xs]) else .ok (.fl xs) st
section
variable {G : Gn} {W : WX} {m p : List Addr} {H : Hp} {σ : St} {st : Sto} {Q : VK} {xs : List D} {vs : List V}
theorem newL {own : Bool} (h : OkD G W m p H σ (mkL own xs st) Q) (S : SR G m p H st) (r : Reps G m p H xs vs) : ∀ q, H q = none → Q (.ref q) (upd H q (.lst vs)) := by
  intro q hq
  unfold mkL at h
  cases own with
  | true =>
    rw [if_pos rfl] at h
    refine h (.ref q) (m ++ [q]) _ (Ext.own hq) (S.own hq ⟨vs, upd_same, Reps.ext (Ext.own hq) _ _ r⟩) (rep_ref.mpr ⟨q, rfl, ?_⟩)
    rw [← S.len]; simp
  | false =>
    rw [if_neg (by decide)] at h
    exact h (.ref q) m _ (Ext.new hq) (S.new hq) (rep_fl.mpr ⟨q, vs, rfl, ⟨upd_same, fun z => S.live q z hq, fun z => S.lp q z hq⟩, Reps.ext (Ext.new hq) _ _ r⟩)
theorem newT (h : OkD G W m p H σ (.ok (.tup xs) st) Q) (S : SR G m p H st) (r : Reps G m p H xs vs) : ∀ q, H q = none → Q (.ref q) (upd H q (.tup vs)) := by
  intro q hq
  exact h (.ref q) m _ (Ext.new hq) (S.new hq) (rep_tup.mpr ⟨q, vs, rfl, .inl ⟨upd_same, fun z => S.live q z hq, fun z => S.lp q z hq⟩, Reps.ext (Ext.new hq) _ _ r⟩)
theorem OkD.now {d : D} {v : V} (h : OkD G W m p H σ (.ok d st) Q) (S : SR G m p H st) (r : Rep G m p H d v) : Q v H := h v m H Ext.refl S r
theorem OkB.now {b : Bool} {Q : Bool → Hp → Prop} (h : OkB G W m p H σ (.ok b st) Q) (S : SR G m p H st) : Q b H := h m H Ext.refl S
theorem OkA.now {Q : List V → Hp → Prop} (h : OkA G W m p H σ (.ok xs st) Q) (S : SR G m p H st) (r : Reps G m p H xs vs) : Q vs H := h vs m H Ext.refl S r
end

/-! ## what can be read as a sequence -/
def lsts (st : Sto) : D → Option (List D)
  | .fl xs => some xs
  | .ref n => match st[n]? with
    | some (.lst xs) => some xs
    | _ => none
  | _ => none
def lstv (st : Sto) : D → Option (List D)
  | .rl xs => some xs
  | d => lsts st d
def seqv (st : Sto) : D → Option (List D)
  | .tup xs => some xs
  | d => lstv st d
section
variable {G : Gn} {m p : List Addr} {H : Hp} {st : Sto} {d : D} {v : V} {xs : List D}
theorem lsts_rep (S : SR G m p H st) (r : Rep G m p H d v) (h : lsts st d = some xs) : ∃ a vs, v = .ref a ∧ H a = some (.lst vs) ∧ Reps G m p H xs vs := by
  cases d with
  | fl ys =>
    obtain ⟨a, vs, e, h1, h2⟩ := rep_fl.mp r
    simp only [lsts, Option.some.injEq] at h; subst h
    exact ⟨a, vs, e, h1.1, h2⟩
  | ref n =>
    obtain ⟨a, e, h1⟩ := rep_ref.mp r
    obtain ⟨o, ho, hr⟩ := S.get h1
    simp only [lsts, ho] at h
    cases o with
    | lst ys =>
      simp only [Option.some.injEq] at h; subst h
      obtain ⟨vs, h2, h3⟩ := hr
      exact ⟨a, vs, e, h2, h3⟩
    | dk _ => simp at h
    | dt _ => simp at h
    | ins _ _ => simp at h
  | _ => simp [lsts] at h
theorem lstv_rep (S : SR G m p H st) (r : Rep G m p H d v) (h : lstv st d = some xs) : ∃ a vs, v = .ref a ∧ SqL G.K H a vs ∧ Reps G m p H xs vs := by
  cases d with
  | rl ys =>
    obtain ⟨a, vs, e, h1, h2⟩ := rep_rl.mp r
    simp only [lstv, Option.some.injEq] at h; subst h
    exact ⟨a, vs, e, Fz.sqL h1, h2⟩
  | fl ys =>
    obtain ⟨a, vs, e, h1, h2⟩ := lsts_rep S r h
    exact ⟨a, vs, e, SqL.of h1, h2⟩
  | ref n =>
    obtain ⟨a, vs, e, h1, h2⟩ := lsts_rep S r h
    exact ⟨a, vs, e, SqL.of h1, h2⟩
  | _ => simp [lstv, lsts] at h
theorem seqv_rep (S : SR G m p H st) (r : Rep G m p H d v) (h : seqv st d = some xs) : ∃ a vs, v = .ref a ∧ (SqL G.K H a vs ∨ SqT G.K H a vs) ∧ Reps G m p H xs vs := by
  cases d with
  | tup ys =>
    obtain ⟨a, vs, e, h1, h2⟩ := rep_tup.mp r
    simp only [seqv, Option.some.injEq] at h; subst h
    exact ⟨a, vs, e, .inr (Fz.sqT h1), h2⟩
  | fl ys =>
    obtain ⟨a, vs, e, h1, h2⟩ := lstv_rep S r h
    exact ⟨a, vs, e, .inl h1, h2⟩
  | rl ys =>
    obtain ⟨a, vs, e, h1, h2⟩ := lstv_rep S r h
    exact ⟨a, vs, e, .inl h1, h2⟩
  | ref n =>
    obtain ⟨a, vs, e, h1, h2⟩ := lstv_rep S r h
    exact ⟨a, vs, e, .inl h1, h2⟩
  | _ => simp [seqv, lstv, lsts] at h
end

/-! ## names, constants -/
def mVar (i : Nat) : EM := fun env st => match env[i]? with
  | some (some d) => .ok d st
  | _ => .bad
def mC (d : D) : EM := fun _ st => .ok d st
section
variable {X : Cx} {W : WX} {xs : XSlot}
theorem me_var (i : Nat) {x : Str} {pos : Pos} (hx : ∀ q, xs ≠ some (i, q) := by intro q z; cases z) (hN : X.N[i]? = some x := by rfl) (hv : Vis X.env.scope x := by first | exact .inl rfl | exact .inr (.inl rfl) | exact .inr (.inr rfl))
    (hd : (x == ("__debug__" : Str)) = false := by decide) (hcd : (x == ("__classdict__" : Str)) = false := by decide) : ME X W xs (.Name x pos) (mVar i) :=
  PEi (pe_var hN hv hd hcd) fun σ H Q ⟨m, p, env, st, E, S, h⟩ => by
    unfold mVar at h
    cases q : env[i]? with
    | none => rw [q] at h; exact h.elim
    | some o =>
      cases o with
      | none => rw [q] at h; exact h.elim
      | some d =>
        rw [q] at h
        obtain ⟨v, e, r⟩ := E.get q hx
        exact ⟨v, e, OkD.now h S r⟩
theorem me_c {e : Expr} {d : D} {v : V} (h : PE X e (tC v)) (r : ∀ m p H, Rep (gn X) m p H d v) : ME X W xs e (mC d) :=
  PEi h fun σ H Q ⟨m, p, env, st, E, S, h⟩ => OkD.now h S (r m p H)
theorem me_int {i : Int} {j : Nat} {pos : Pos} : ME X W xs (.Constant (.int i) j pos) (mC (.int i)) := me_c pe_int fun _ _ _ => rep_int.mpr rfl
theorem me_bl {b : Bool} {j : Nat} {pos : Pos} : ME X W xs (.Constant (.bool b) j pos) (mC (.bl b)) := me_c pe_bl fun _ _ _ => rep_bl.mpr rfl
theorem me_non {j : Nat} {pos : Pos} : ME X W xs (.Constant .none j pos) (mC .non) := me_c pe_non fun _ _ _ => rep_non.mpr rfl
theorem me_str {x : Str} {j : Nat} {pos : Pos} : ME X W xs (.Constant (.str x) j pos) (mC (.str x)) := me_c pe_str fun _ _ _ => rep_str.mpr rfl
theorem me_glob {x : Str} {pos : Pos} {a : Addr} (hm : X.mg x = some (.ref a)) (hg : Gl X x := by rfl) (hd : (x == ("__debug__" : Str)) = false := by decide) : ME X W xs (.Name x pos) (mC (.glob x)) :=
  me_c (pe_glob hg hm (v := .ref a) rfl hd) fun _ _ _ => rep_glob.mpr ⟨a, rfl, hm⟩
end

/-! ## operations of two values -/
def mBin (f : D → D → Sto → Out D) (a b : EM) : EM := fun env st => (a env st).bind fun x st1 => (b env st1).bind fun y st2 => f x y st2
def VOp (G : Gn) (r : R2) (f : D → D → Sto → Out D) : Prop :=
  ∀ (W : WX) (σ : St) (m p : List Addr) (H : Hp) (st : Sto) (x y : D) (v u : V) (Q : VK), SR G m p H st → Rep G m p H x v → Rep G m p H y u → OkD G W m p H σ (f x y st) Q → r v u H Q
/-- an operation of values with its answer -/
structure BinOk (X : Cx) (g : Value → Value → Sem Value) (f : D → D → Sto → Out D) : Prop where
  ok : ∃ r, OpR X g r ∧ VOp (gn X) r f
section
variable {X : Cx} {W : WX} {xs : XSlot} {a b : Expr} {pos : Pos} {ca cb : EM} {f : D → D → Sto → Out D}
theorem rdBin {r : R2} (hv : VOp (gn X) r f) (σ : St) (H : Hp) (Q : VK) (h : rdD (gn X) W xs (mBin f ca cb) σ H Q) : tOp r (rdD (gn X) W xs ca) (rdD (gn X) W xs cb) σ H Q := by
  obtain ⟨m, p, env, st, E, S, h⟩ := h
  exact ⟨m, p, env, st, E, S, h.andD fun x st1 v m1 H1 e1 s1 r1 h1 => ⟨m1, p, env, st1, E.ext e1, s1, h1.andD fun y st2 u m2 H2 e2 s2 r2 h2 =>
    hv W σ m2 p H2 st2 x y v u Q s2 (Rep.ext e2 _ _ r1) r2 h2⟩⟩
theorem me_bin {op : Operator} (ho : BinOk X (binaryOp op) f) (ha : ME X W xs a ca) (hb : ME X W xs b cb) : ME X W xs (.BinOp a op b pos) (mBin f ca cb) := by
  obtain ⟨r, h1, h2⟩ := ho.ok
  exact PEi (pe_op h1 ha hb) (rdBin h2)
theorem me_cmp {op : CmpOp} (ho : BinOk X (compareOp op) f) (ha : ME X W xs a ca) (hb : ME X W xs b cb) (hm : behindInMarks op b = false := by first | exact nobehind _ (by decide) (by decide) | rfl) :
    ME X W xs (.Compare a [op] [b] pos) (mBin f ca cb) := by
  obtain ⟨r, h1, h2⟩ := ho.ok
  exact PEi (pe_cmpR h1 ha hb hm) (rdBin h2)
end

/-! ## tests -/
def mTst (c : EM) : TM := fun env st => (c env st).bind fun d st1 => match d with
  | .bl b => .ok b st1
  | _ => .bad
section
variable {X : Cx} {W : WX} {xs : XSlot} {a b e : Expr} {pos : Pos} {ca cb c : EM} {f : D → D → Sto → Out D}
theorem rdTst (σ : St) (H : Hp) (Q : Bool → Hp → Prop) (h : rdB (gn X) W xs (mTst c) σ H Q) : rdD (gn X) W xs c σ H (fun x H' => ∃ k, x = .bl k ∧ Q k H') := by
  obtain ⟨m, p, env, st, E, S, h⟩ := h
  refine ⟨m, p, env, st, E, S, h.andD fun d st1 v m1 H1 e1 s1 r1 h1 => ?_⟩
  cases d with
  | bl k => exact ⟨k, rep_bl.mp r1, OkB.now h1 s1⟩
  | _ => exact h1.elim
theorem mt_cmp {op : CmpOp} (ho : BinOk X (compareOp op) f) (ha : ME X W xs a ca) (hb : ME X W xs b cb) (hm : behindInMarks op b = false := by first | exact nobehind _ (by decide) (by decide) | rfl) :
    MT X W xs (.Compare a [op] [b] pos) (mTst (mBin f ca cb)) := by
  obtain ⟨r, h1, h2⟩ := ho.ok
  exact PTi (pt_cmpR h1 ha hb hm) fun σ H Q h => rdBin h2 σ H _ (rdTst σ H Q h)
theorem mt_val (h : ME X W xs e c) (he : ∀ whole, isTrue e X.env whole = (do let v ← whole; standAt e.pos; holding [v] (truthy v)) := by intro _; rfl) : MT X W xs e (mTst c) :=
  PTi (pt_val h he) fun σ H Q h => rdTst σ H Q h
end
def mNotT (c : TM) : TM := fun env st => (c env st).bind fun b st1 => .ok (!b) st1
def mAndT (c d : TM) : TM := fun env st => (c env st).bind fun b st1 => if b = true then d env st1 else .ok false st1
def mOrT (c d : TM) : TM := fun env st => (c env st).bind fun b st1 => if b = true then .ok true st1 else d env st1
def mIf (c : TM) (a b : EM) : EM := fun env st => (c env st).bind fun k st1 => if k = true then a env st1 else b env st1
def mNot (c : EM) : EM := fun env st => (mTst c env st).bind fun b st1 => .ok (.bl (!b)) st1
def mAnd (c d : EM) : EM := fun env st => (mTst c env st).bind fun b st1 => if b = true then d env st1 else .ok (.bl false) st1
def mOr (c d : EM) : EM := fun env st => (mTst c env st).bind fun b st1 => if b = true then .ok (.bl true) st1 else d env st1
section
variable {X : Cx} {W : WX} {xs : XSlot} {a b e : Expr} {rest : List Expr} {pos : Pos} {ca cb : EM} {ta tb : TM}
theorem mt_not (h : MT X W xs a ta) : MT X W xs (.UnaryOp .Not a pos) (mNotT ta) :=
  PTi (pt_not h) fun σ H Q ⟨m, p, env, st, E, S, h⟩ => ⟨m, p, env, st, E, S, h.andB fun b st1 m1 H1 e1 s1 h1 => OkB.now h1 s1⟩
theorem mt_of {e : Expr} (h : MW X W xs e ta) : MT X W xs e ta := PW.pt h
theorem mw_and1 (h : MT X W xs a ta) : MW X W xs (.BoolOp .And [a] pos) ta := pw_and1 h
theorem mw_or1 (h : MT X W xs a ta) : MW X W xs (.BoolOp .Or [a] pos) ta := pw_or1 h
theorem mw_and (ha : MT X W xs a ta) (hb : MW X W xs (.BoolOp .And (b :: rest) pos) tb) : MW X W xs (.BoolOp .And (a :: b :: rest) pos) (mAndT ta tb) :=
  PWi (pw_and ha hb) fun σ H Q ⟨m, p, env, st, E, S, h⟩ => ⟨m, p, env, st, E, S, h.andB fun b st1 m1 H1 e1 s1 h1 => by
    cases b with
    | true => exact ⟨m1, p, env, st1, E.ext e1, s1, h1⟩
    | false => exact OkB.now h1 s1⟩
theorem mw_or (ha : MT X W xs a ta) (hb : MW X W xs (.BoolOp .Or (b :: rest) pos) tb) : MW X W xs (.BoolOp .Or (a :: b :: rest) pos) (mOrT ta tb) :=
  PWi (pw_or ha hb) fun σ H Q ⟨m, p, env, st, E, S, h⟩ => ⟨m, p, env, st, E, S, h.andB fun b st1 m1 H1 e1 s1 h1 => by
    cases b with
    | true => exact OkB.now h1 s1
    | false => exact ⟨m1, p, env, st1, E.ext e1, s1, h1⟩⟩
theorem me_if (hc : MT X W xs e ta) (ha : ME X W xs a ca) (hb : ME X W xs b cb) : ME X W xs (.IfExp e a b pos) (mIf ta ca cb) :=
  PEi (pe_ifExp hc ha hb) fun σ H Q ⟨m, p, env, st, E, S, h⟩ => ⟨m, p, env, st, E, S, h.andB fun k st1 m1 H1 e1 s1 h1 => by
    cases k with
    | true => exact ⟨m1, p, env, st1, E.ext e1, s1, h1⟩
    | false => exact ⟨m1, p, env, st1, E.ext e1, s1, h1⟩⟩
theorem rdTB (c : EM) (K : Bool → Sto → Out D) (P : VK) (σ : St) (H : Hp) (Q : VK) (hP : ∀ b m1 p H1 env st1, EnvR (gn X) m1 p H1 xs env σ → SR (gn X) m1 p H1 st1 → OkD (gn X) W m1 p H1 σ (K b st1) Q → P (.bl b) H1) :
    (∃ m p env st, EnvR (gn X) m p H xs env σ ∧ SR (gn X) m p H st ∧ OkD (gn X) W m p H σ ((mTst c env st).bind K) Q) → rdD (gn X) W xs c σ H P := by
  rintro ⟨m, p, env, st, E, S, h⟩
  refine ⟨m, p, env, st, E, S, ?_⟩
  unfold mTst at h
  cases q : c env st with
  | ok d st1 =>
    rw [q] at h
    intro v m1 H1 e1 s1 r1
    cases d with
    | bl k =>
      rw [rep_bl.mp r1]
      exact hP k m1 p H1 env st1 (E.ext e1) s1 (OkD.ext h e1)
    | _ => exact h.elim
  | exc x at_ st1 => rw [q] at h; exact h
  | bad => rw [q] at h; exact h
end
theorem me_one {X : Cx} {W : WX} {xs : XSlot} {a : Expr} {op : BoolOp} {pos : Pos} {ca : EM} (h : ME X W xs a ca) : ME X W xs (.BoolOp op [a] pos) ca := pe_one h
section
variable {X : Cx} {W : WX} {xs : XSlot} {a b e : Expr} {rest : List Expr} {pos : Pos} {ca cb : EM} {ta tb : TM}
/-- the same with the frame kept -/
theorem rdTB2 (c : EM) (K : En → Bool → Sto → Out D) (P : VK) (σ : St) (H : Hp) (Q : VK) (hP : ∀ b m1 p H1 env st1, EnvR (gn X) m1 p H1 xs env σ → SR (gn X) m1 p H1 st1 → OkD (gn X) W m1 p H1 σ (K env b st1) Q → P (.bl b) H1) :
    (∃ m p env st, EnvR (gn X) m p H xs env σ ∧ SR (gn X) m p H st ∧ OkD (gn X) W m p H σ ((mTst c env st).bind (K env)) Q) → rdD (gn X) W xs c σ H P := by
  rintro ⟨m, p, env, st, E, S, h⟩
  refine ⟨m, p, env, st, E, S, ?_⟩
  unfold mTst at h
  cases q : c env st with
  | ok d st1 =>
    rw [q] at h
    intro v m1 H1 e1 s1 r1
    cases d with
    | bl k =>
      rw [rep_bl.mp r1]
      exact hP k m1 p H1 env st1 (E.ext e1) s1 (OkD.ext h e1)
    | _ => exact h.elim
  | exc x at_ st1 => rw [q] at h; exact h
  | bad => rw [q] at h; exact h
theorem me_not (h : ME X W xs a ca) : ME X W xs (.UnaryOp .Not a pos) (mNot ca) :=
  PEi (pe_not h) fun σ H Q hq => rdTB2 ca (fun _ b st1 => .ok (.bl (!b)) st1) _ σ H Q (fun b m1 p H1 env st1 E S h1 => ⟨b, rfl, OkD.now h1 S (rep_bl.mpr rfl)⟩) hq
theorem me_and (ha : ME X W xs a ca) (hb : ME X W xs (.BoolOp .And (b :: rest) pos) cb) : ME X W xs (.BoolOp .And (a :: b :: rest) pos) (mAnd ca cb) :=
  PEi (pe_and ha hb) fun σ H Q hq => rdTB2 ca (fun env b st1 => if b = true then cb env st1 else .ok (.bl false) st1) _ σ H Q (fun b m1 p H1 env st1 E S h1 => ⟨b, rfl, by
    cases b with
    | true => exact ⟨m1, p, env, st1, E, S, h1⟩
    | false => exact OkD.now h1 S (rep_bl.mpr rfl)⟩) hq
theorem me_or (ha : ME X W xs a ca) (hb : ME X W xs (.BoolOp .Or (b :: rest) pos) cb) : ME X W xs (.BoolOp .Or (a :: b :: rest) pos) (mOr ca cb) :=
  PEi (pe_or ha hb) fun σ H Q hq => rdTB2 ca (fun env b st1 => if b = true then .ok (.bl true) st1 else cb env st1) _ σ H Q (fun b m1 p H1 env st1 E S h1 => ⟨b, rfl, by
    cases b with
    | true => exact OkD.now h1 S (rep_bl.mpr rfl)
    | false => exact ⟨m1, p, env, st1, E, S, h1⟩⟩) hq
end

/-! ## arguments, displays -/
def aNil : AM := fun _ st => .ok [] st
def aCons (a : EM) (r : AM) : AM := fun env st => (a env st).bind fun x st1 => (r env st1).bind fun xs st2 => .ok (x :: xs) st2
def aStar (a : EM) (r : AM) : AM := fun env st => (a env st).bind fun x st1 => match seqv st1 x with
  | some ys => (r env st1).bind fun xs st2 => .ok (ys ++ xs) st2
  | none => .bad
def mTup (a : AM) : EM := fun env st => (a env st).bind fun xs st1 => if xs.length ≤ sizeLine then .ok (.tup xs) st1 else .bad
def mLst (own : Bool) (a : AM) : EM := fun env st => (a env st).bind fun xs st1 => if xs.length ≤ sizeLine then mkL own xs st1 else .bad
section
variable {X : Cx} {W : WX} {xs : XSlot} {e : Expr} {es : List Expr} {pos : Pos} {ca : EM} {r : AM}
theorem ma_nil : MA X W xs [] aNil := PAi pa_nil fun σ H Q ⟨m, p, env, st, E, S, h⟩ => OkA.now h S (reps_nil.mpr rfl)
theorem ma_cons (ha : ME X W xs e ca) (hr : MA X W xs es r) (hs : starEach (e :: es) X.env = (false, eval e X.env) :: starEach es X.env := by rfl) : MA X W xs (e :: es) (aCons ca r) :=
  PAi (pa_cons ha hr hs) fun σ H Q ⟨m, p, env, st, E, S, h⟩ => ⟨m, p, env, st, E, S, h.andD fun x st1 v m1 H1 e1 s1 r1 h1 => ⟨m1, p, env, st1, E.ext e1, s1, h1.andA fun ys st2 vs m2 H2 e2 s2 r2 h2 =>
    OkA.now h2 s2 (reps_cons.mpr ⟨v, vs, rfl, Rep.ext e2 _ _ r1, r2⟩)⟩⟩
theorem ma_star {p' : Pos} (ha : ME X W xs e ca) (hr : MA X W xs es r) (hs : starEach (.Starred e p' :: es) X.env = (true, eval e X.env) :: starEach es X.env := by rfl) : MA X W xs (.Starred e p' :: es) (aStar ca r) :=
  PAi (StX.pa_star ha hr hs) fun σ H Q ⟨m, p, env, st, E, S, h⟩ => ⟨m, p, env, st, E, S, h.andD fun x st1 v m1 H1 e1 s1 r1 h1 => by
    cases q : seqv st1 x with
    | none => simp only [q] at h1; exact h1.elim
    | some ys =>
      simp only [q] at h1
      obtain ⟨a, vs, e2, h2, h3⟩ := seqv_rep s1 r1 q
      exact ⟨a, vs, e2, h2.symm, ⟨m1, p, env, st1, E.ext e1, s1, h1.andA fun zs st2 us m2 H2 e2 s2 r2 h2 => OkA.now h2 s2 ((Reps.ext e2 _ _ h3).append r2)⟩⟩⟩
theorem me_tup {x1 : Nat} (h : MA X W xs es r) : ME X W xs (.Tuple es x1 pos) (mTup r) :=
  PEi (pe_tup h) fun σ H Q ⟨m, p, env, st, E, S, h⟩ => ⟨m, p, env, st, E, S, h.andA fun ys st1 vs m1 H1 e1 s1 r1 h1 => by
    by_cases z : ys.length ≤ sizeLine
    · rw [if_pos z] at h1
      exact ⟨by rw [r1.length]; exact z, newT h1 s1 r1⟩
    · rw [if_neg z] at h1; exact h1.elim⟩
theorem me_lst (own : Bool) (h : MA X W xs es r) : ME X W xs (.List es pos) (mLst own r) :=
  PEi (pe_lst h) fun σ H Q ⟨m, p, env, st, E, S, h⟩ => ⟨m, p, env, st, E, S, h.andA fun ys st1 vs m1 H1 e1 s1 r1 h1 => by
    by_cases z : ys.length ≤ sizeLine
    · rw [if_pos z] at h1
      exact ⟨by rw [r1.length]; exact z, newL h1 s1 r1⟩
    · rw [if_neg z] at h1; exact h1.elim⟩
end

/-! ## arithmetic -/
def fInt (g : Int → Int → D) : D → D → Sto → Out D
  | .int i, .int j, st => .ok (g i j) st
  | _, _, _ => .bad
def fIntC (C : Int → Int → Prop) [∀ i j, Decidable (C i j)] (g : Int → Int → D) : D → D → Sto → Out D
  | .int i, .int j, st => if C i j then .ok (g i j) st else .bad
  | _, _, _ => .bad
theorem vop_int {G : Gn} {g : Int → Int → D} {gv : Int → Int → V} (hg : ∀ i j m p H, Rep G m p H (g i j) (gv i j)) : VOp G (rI0 gv) (fInt g) := by
  intro W σ m p H st x y v u Q S rx ry h
  cases x with
  | int i =>
    cases y with
    | int j => exact ⟨i, j, rep_int.mp rx, rep_int.mp ry, OkD.now h S (hg i j m p H)⟩
    | _ => exact h.elim
  | _ => exact h.elim
theorem vop_intC {G : Gn} {C C' : Int → Int → Prop} [∀ i j, Decidable (C i j)] {g : Int → Int → D} {gv : Int → Int → V} (hc : ∀ i j, C i j → C' i j) (hg : ∀ i j m p H, C i j → Rep G m p H (g i j) (gv i j)) : VOp G (rI C' gv) (fIntC C g) := by
  intro W σ m p H st x y v u Q S rx ry h
  cases x with
  | int i =>
    cases y with
    | int j =>
      by_cases z : C i j
      · simp only [fIntC, if_pos z] at h
        exact ⟨i, j, rep_int.mp rx, rep_int.mp ry, hc i j z, OkD.now h S (hg i j m p H z)⟩
      · simp only [fIntC, if_neg z] at h; exact h.elim
    | _ => exact h.elim
  | _ => exact h.elim
end Mi

namespace Mi
open PySem L2

section
variable {X : Cx}
theorem bo_sub : BinOk X (binaryOp .Sub) (fInt fun i j => .int (i - j)) := ⟨_, op_sub, vop_int fun _ _ _ _ _ => rep_int.mpr rfl⟩
theorem bo_lt : BinOk X (compareOp .Lt) (fInt fun i j => .bl (decide (i < j))) := ⟨_, op_lt, vop_int fun _ _ _ _ _ => rep_bl.mpr rfl⟩
theorem bo_le : BinOk X (compareOp .LtE) (fInt fun i j => .bl (decide (i ≤ j))) := ⟨_, op_le, vop_int fun _ _ _ _ _ => rep_bl.mpr rfl⟩
theorem bo_gt : BinOk X (compareOp .Gt) (fInt fun i j => .bl (decide (j < i))) := ⟨_, op_gt, vop_int fun _ _ _ _ _ => rep_bl.mpr rfl⟩
theorem bo_ge : BinOk X (compareOp .GtE) (fInt fun i j => .bl (decide (j ≤ i))) := ⟨_, op_ge, vop_int fun _ _ _ _ _ => rep_bl.mpr rfl⟩
instance : ∀ i j, Decidable (CMulW i j) := fun i j => by unfold CMulW; infer_instance
instance : ∀ i j, Decidable (CDivW i j) := fun i j => by unfold CDivW; infer_instance
instance : ∀ i j, Decidable (CPow i j) := fun i j => by unfold CPow; infer_instance
theorem bo_fdiv : BinOk X (binaryOp .FloorDiv) (fIntC CDivW fun i j => .int (i / j)) := ⟨_, op_fdivW, vop_intC (fun _ _ h => h) fun _ _ _ _ _ _ => rep_int.mpr rfl⟩
theorem bo_mod : BinOk X (binaryOp .Mod) (fIntC (fun _ j => 0 < j) fun i j => .int (i % j)) := ⟨_, op_mod, vop_intC (fun _ _ h => h) fun _ _ _ _ _ _ => rep_int.mpr rfl⟩
theorem bo_pow : BinOk X (binaryOp .Pow) (fIntC CPow fun i j => .int (i ^ j.toNat)) := ⟨_, op_pow, vop_intC (fun _ _ h => h) fun _ _ _ _ _ _ => rep_int.mpr rfl⟩

/-! + -/
def fAdd (own : Bool) : D → D → Sto → Out D
  | .int i, .int j, st => .ok (.int (i + j)) st
  | .str a, .str b, st => if a.length + b.length ≤ sizeLine then .ok (.str (a ++ b)) st else .bad
  | .tup a, .tup b, st => if a.length + b.length ≤ sizeLine then .ok (.tup (a ++ b)) st else .bad
  | x, y, st => match lsts st x, lsts st y with
    | some a, some b => if a.length + b.length ≤ sizeLine then mkL own (a ++ b) st else .bad
    | _, _ => .bad
theorem fAdd_lst {own : Bool} {x y : D} {st : Sto} {G : Gn} {W : WX} {m p : List Addr} {H : Hp} {σ : St} {v u : V} {Q : VK} (S : SR G m p H st) (rx : Rep G m p H x v) (ry : Rep G m p H y u)
    (h : OkD G W m p H σ (match lsts st x, lsts st y with
    | some a, some b => if a.length + b.length ≤ sizeLine then mkL own (a ++ b) st else .bad
    | _, _ => .bad) Q) : rCat v u H Q := by
  cases q1 : lsts st x with
  | none => rw [q1] at h; exact h.elim
  | some a =>
    cases q2 : lsts st y with
    | none => rw [q1, q2] at h; exact h.elim
    | some b =>
      rw [q1, q2] at h
      by_cases z : a.length + b.length ≤ sizeLine
      · simp only [if_pos z] at h
        obtain ⟨l1, vs, rfl, h1, r1⟩ := lsts_rep S rx q1
        obtain ⟨l2, ws, rfl, h2, r2⟩ := lsts_rep S ry q2
        exact ⟨l1, l2, vs, ws, rfl, rfl, h1, h2, by rw [r1.length, r2.length]; exact z, newL h S (r1.append r2)⟩
      · simp only [if_neg z] at h; exact h.elim
theorem bo_add (own : Bool) : BinOk X (binaryOp .Add) (fAdd own) := by
  refine ⟨_, OpR.or (OpR.or op_add op_add_str) (OpR.or op_catA op_cat), ?_⟩
  intro W σ m p H st x y v u Q S rx ry h
  have key := fun (hx : fAdd own x y st = match lsts st x, lsts st y with
    | some a, some b => if a.length + b.length ≤ sizeLine then mkL own (a ++ b) st else .bad
    | _, _ => .bad) => fAdd_lst S rx ry (by rw [hx] at h; exact h)
  cases x with
  | int i =>
    cases y with
    | int j => exact .inl (.inl ⟨i, j, rep_int.mp rx, rep_int.mp ry, OkD.now h S (rep_int.mpr rfl)⟩)
    | _ => exact .inr (.inr (key rfl))
  | str a =>
    cases y with
    | str b =>
      by_cases z : a.length + b.length ≤ sizeLine
      · simp only [fAdd, if_pos z] at h
        exact .inl (.inr ⟨a, b, rep_str.mp rx, rep_str.mp ry, z, OkD.now h S (rep_str.mpr rfl)⟩)
      · simp only [fAdd, if_neg z] at h; exact h.elim
    | _ => exact .inr (.inr (key rfl))
  | tup a =>
    cases y with
    | tup b =>
      by_cases z : a.length + b.length ≤ sizeLine
      · simp only [fAdd, if_pos z] at h
        obtain ⟨l1, vs, rfl, h1, r1⟩ := rep_tup.mp rx
        obtain ⟨l2, ws, rfl, h2, r2⟩ := rep_tup.mp ry
        refine .inr (.inl ⟨l1, l2, vs, ws, rfl, rfl, Fz.sqT h1, Fz.sqT h2, by rw [r1.length, r2.length]; exact z, fun e => ?_, fun _ e => ?_, fun _ _ => newT h S (r1.append r2)⟩)
        · subst e
          have e2 : a = [] := by cases a with
            | nil => rfl
            | cons => have := r1.length; simp at this
          subst e2
          exact OkD.now h S (rep_tup.mpr ⟨l2, ws, rfl, h2, r2⟩)
        · subst e
          have e2 : b = [] := by cases b with
            | nil => rfl
            | cons => have := r2.length; simp at this
          subst e2
          rw [List.append_nil] at h
          exact OkD.now h S (rep_tup.mpr ⟨l1, vs, rfl, h1, r1⟩)
      · simp only [fAdd, if_neg z] at h; exact h.elim
    | _ => exact .inr (.inr (key rfl))
  | _ => exact .inr (.inr (key rfl))

/-! * -/
def fMul (own : Bool) : D → D → Sto → Out D
  | .int i, .int j, st => if CMulW i j then .ok (.int (i * j)) st else .bad
  | .tup a, .int k, st => if a ≠ [] ∧ 2 ≤ k ∧ k ≤ 1000 ∧ a.length ≤ 1000 then .ok (.tup (List.replicate k.toNat a).flatten) st else .bad
  | x, .int k, st => match lsts st x with
    | some a => if -(2 ^ 63) ≤ k ∧ k < 2 ^ 63 ∧ a.length * k.toNat ≤ sizeLine then mkL own (List.replicate k.toNat a).flatten st else .bad
    | _ => .bad
  | _, _, _ => .bad
theorem bo_mul (own : Bool) : BinOk X (binaryOp .Mult) (fMul own) := by
  refine ⟨_, OpR.or op_mulW (OpR.or op_repT op_rep), ?_⟩
  intro W σ m p H st x y v u Q S rx ry h
  cases y with
  | int k =>
    have key := fun (hx : fMul own x (.int k) st = match lsts st x with
      | some a => if -(2 ^ 63) ≤ k ∧ k < 2 ^ 63 ∧ a.length * k.toNat ≤ sizeLine then mkL own (List.replicate k.toNat a).flatten st else .bad
      | _ => .bad) => (show rRep v u H Q by
        rw [hx] at h
        cases q1 : lsts st x with
        | none => rw [q1] at h; exact h.elim
        | some a =>
          rw [q1] at h
          by_cases z : -(2 ^ 63) ≤ k ∧ k < 2 ^ 63 ∧ a.length * k.toNat ≤ sizeLine
          · simp only [if_pos z] at h
            obtain ⟨l1, vs, rfl, h1, r1⟩ := lsts_rep S rx q1
            exact ⟨l1, k, vs, rfl, rep_int.mp ry, h1, z.1, z.2.1, by rw [r1.length]; exact z.2.2, newL h S (r1.rep _)⟩
          · simp only [if_neg z] at h; exact h.elim)
    cases x with
    | int i =>
      by_cases z : CMulW i k
      · simp only [fMul, if_pos z] at h
        exact .inl ⟨i, k, rep_int.mp rx, rep_int.mp ry, z, OkD.now h S (rep_int.mpr rfl)⟩
      · simp only [fMul, if_neg z] at h; exact h.elim
    | tup a =>
      by_cases z : a ≠ [] ∧ 2 ≤ k ∧ k ≤ 1000 ∧ a.length ≤ 1000
      · simp only [fMul, if_pos z] at h
        obtain ⟨l1, vs, rfl, h1, r1⟩ := rep_tup.mp rx
        refine .inr (.inl ⟨l1, k, vs, rfl, rep_int.mp ry, Fz.sqT h1, fun e => ?_, z.2.1, z.2.2.1, by rw [r1.length]; exact z.2.2.2, newT h S (r1.rep _)⟩)
        subst e
        have := r1.length
        exact z.1 (List.eq_nil_of_length_eq_zero this.symm)
      · simp only [fMul, if_neg z] at h; exact h.elim
    | _ => exact .inr (.inr (key rfl))
  | _ => cases x <;> exact h.elim
end

/-! ## data of any depth: ==, in, repr -/
mutual
def pyOf (f : Nat → Option PyData) : D → Option PyData
  | .non => some .none
  | .bl b => some (.bool b)
  | .int i => some (.int i)
  | .str s => some (.str s)
  | .tup ds => (pysOf f ds).map .tuple
  | .fl ds => (pysOf f ds).map .list
  | .rl ds => (pysOf f ds).map .list
  | .ref n => f n
  | .glob _ => none
def pysOf (f : Nat → Option PyData) : List D → Option (List PyData)
  | [] => some []
  | d :: ds => (pyOf f d).bind fun a => (pysOf f ds).map fun b => a :: b
end
def pyR (st : Sto) : Nat → Nat → Option PyData
  | 0, _ => none
  | k + 1, n => match st[n]? with
    | some (.lst xs) => (pysOf (pyR st k) xs).map .list
    | _ => none
def toPy (st : Sto) (d : D) : Option PyData := pyOf (pyR st 4) d

section
variable {G : Gn} {m p : List Addr} {H : Hp}
mutual
theorem dp_of {f : Nat → Option PyData} (hf : ∀ n a d, f n = some d → m[n]? = some a → Dp G.K H (.ref a) d) : ∀ (d : D) (e : PyData) (v : V), pyOf f d = some e → Rep G m p H d v → Dp G.K H v e
  | .non, _, _, h, r => by simp only [pyOf, Option.some.injEq] at h; subst h; rw [rep_non.mp r]; exact .non
  | .bl b, _, _, h, r => by simp only [pyOf, Option.some.injEq] at h; subst h; rw [rep_bl.mp r]; exact .bl b
  | .int b, _, _, h, r => by simp only [pyOf, Option.some.injEq] at h; subst h; rw [rep_int.mp r]; exact .int b
  | .str b, _, _, h, r => by simp only [pyOf, Option.some.injEq] at h; subst h; rw [rep_str.mp r]; exact .str b
  | .tup ds, _, _, h, r => by
    simp only [pyOf, Option.map_eq_some_iff] at h
    obtain ⟨es, h, rfl⟩ := h
    obtain ⟨a, vs, rfl, h1, h2⟩ := rep_tup.mp r
    exact .tup (Fz.sqT h1) (dps_of hf ds es vs h h2)
  | .fl ds, _, _, h, r => by
    simp only [pyOf, Option.map_eq_some_iff] at h
    obtain ⟨es, h, rfl⟩ := h
    obtain ⟨a, vs, rfl, h1, h2⟩ := rep_fl.mp r
    exact .lst (SqL.of h1.1) (dps_of hf ds es vs h h2)
  | .rl ds, _, _, h, r => by
    simp only [pyOf, Option.map_eq_some_iff] at h
    obtain ⟨es, h, rfl⟩ := h
    obtain ⟨a, vs, rfl, h1, h2⟩ := rep_rl.mp r
    exact .lst (Fz.sqL h1) (dps_of hf ds es vs h h2)
  | .ref n, _, _, h, r => by
    obtain ⟨a, rfl, h1⟩ := rep_ref.mp r
    exact hf n a _ (by simpa [pyOf] using h) h1
  | .glob _, _, _, h, _ => by simp [pyOf] at h
theorem dps_of {f : Nat → Option PyData} (hf : ∀ n a d, f n = some d → m[n]? = some a → Dp G.K H (.ref a) d) : ∀ (ds : List D) (es : List PyData) (vs : List V), pysOf f ds = some es → Reps G m p H ds vs → DpAll G.K H vs es
  | [], _, _, h, r => by simp only [pysOf, Option.some.injEq] at h; subst h; rw [reps_nil.mp r]; exact .nil
  | d :: ds, _, _, h, r => by
    simp only [pysOf, Option.bind_eq_some_iff, Option.map_eq_some_iff] at h
    obtain ⟨a, h1, b, h2, rfl⟩ := h
    obtain ⟨v, ws, rfl, r1, r2⟩ := reps_cons.mp r
    exact .cons (dp_of hf d a v h1 r1) (dps_of hf ds b ws h2 r2)
end
theorem dp_R {st : Sto} (S : SR G m p H st) : ∀ (k n : Nat) (a : Addr) (d : PyData), pyR st k n = some d → m[n]? = some a → Dp G.K H (.ref a) d
  | 0, _, _, _, h, _ => by simp [pyR] at h
  | k + 1, n, a, d, h, hm => by
    obtain ⟨o, ho, hr⟩ := S.get hm
    simp only [pyR, ho] at h
    cases o with
    | lst ys =>
      simp only [Option.map_eq_some_iff] at h
      obtain ⟨es, h, rfl⟩ := h
      obtain ⟨vs, h2, h3⟩ := hr
      exact .lst (SqL.of h2) (dps_of (fun n a d => dp_R S k n a d) ys es vs h h3)
    | dk _ => simp at h
    | dt _ => simp at h
    | ins _ _ => simp at h
theorem dp_py {st : Sto} (S : SR G m p H st) {d : D} {v : V} {e : PyData} (r : Rep G m p H d v) (h : toPy st d = some e) : Dp G.K H v e := dp_of (dp_R S 4) d e v h r
end

def fEq (neg : Bool) : D → D → Sto → Out D := fun x y st => match toPy st x, toPy st y with
  | some a, some b => if SeqAt.shaped a = true ∧ SeqAt.shaped b = true then .ok (.bl (if neg = true then !PyData.eqv a b else PyData.eqv a b)) st else .bad
  | _, _ => .bad
def fIn (neg : Bool) : D → D → Sto → Out D := fun x y st => match toPy st x, toPy st y with
  | some a, some (.list bs) => if SeqAt.shaped a = true ∧ SeqAt.shaped (.list bs) = true then .ok (.bl (if neg = true then !bs.any (fun z => PyData.eqv z a) else bs.any fun z => PyData.eqv z a)) st else .bad
  | _, _ => .bad
section
variable {X : Cx}
theorem bo_eq (hu : X.A.units + 65 < cLine) : BinOk X (compareOp .Eq) (fEq false) := by
  refine ⟨_, op_eqD (by omega), ?_⟩
  intro W σ m p H st x y v u Q S rx ry h
  unfold fEq at h
  cases q1 : toPy st x with
  | none => rw [q1] at h; exact h.elim
  | some a =>
    cases q2 : toPy st y with
    | none => rw [q1, q2] at h; exact h.elim
    | some b =>
      rw [q1, q2] at h
      by_cases z : SeqAt.shaped a = true ∧ SeqAt.shaped b = true
      · simp only [if_pos z] at h
        exact ⟨a, b, dp_py S rx q1, dp_py S ry q2, z.1, z.2, OkD.now h S (rep_bl.mpr rfl)⟩
      · simp only [if_neg z] at h; exact h.elim
theorem bo_ne (hu : X.A.units + 65 < cLine) : BinOk X (compareOp .NotEq) (fEq true) := by
  refine ⟨_, op_neD (by omega), ?_⟩
  intro W σ m p H st x y v u Q S rx ry h
  unfold fEq at h
  cases q1 : toPy st x with
  | none => rw [q1] at h; exact h.elim
  | some a =>
    cases q2 : toPy st y with
    | none => rw [q1, q2] at h; exact h.elim
    | some b =>
      rw [q1, q2] at h
      by_cases z : SeqAt.shaped a = true ∧ SeqAt.shaped b = true
      · simp only [if_pos z] at h
        exact ⟨a, b, dp_py S rx q1, dp_py S ry q2, z.1, z.2, OkD.now h S (rep_bl.mpr rfl)⟩
      · simp only [if_neg z] at h; exact h.elim
theorem bo_in (hu : X.A.units + 65 < cLine) : BinOk X (compareOp .In) (fIn false) := by
  refine ⟨_, op_inD hu, ?_⟩
  intro W σ m p H st x y v u Q S rx ry h
  unfold fIn at h
  cases q1 : toPy st x with
  | none => rw [q1] at h; exact h.elim
  | some a =>
    cases q2 : toPy st y with
    | none => rw [q1, q2] at h; exact h.elim
    | some b =>
      rw [q1, q2] at h
      cases b with
      | list bs =>
        by_cases z : SeqAt.shaped a = true ∧ SeqAt.shaped (.list bs) = true
        · simp only [if_pos z] at h
          exact ⟨a, bs, dp_py S rx q1, dp_py S ry q2, z.1, z.2, OkD.now h S (rep_bl.mpr rfl)⟩
        · simp only [if_neg z] at h; exact h.elim
      | _ => exact h.elim
theorem bo_notIn (hu : X.A.units + 65 < cLine) : BinOk X (compareOp .NotIn) (fIn true) := by
  refine ⟨_, op_notInD hu, ?_⟩
  intro W σ m p H st x y v u Q S rx ry h
  unfold fIn at h
  cases q1 : toPy st x with
  | none => rw [q1] at h; exact h.elim
  | some a =>
    cases q2 : toPy st y with
    | none => rw [q1, q2] at h; exact h.elim
    | some b =>
      rw [q1, q2] at h
      cases b with
      | list bs =>
        by_cases z : SeqAt.shaped a = true ∧ SeqAt.shaped (.list bs) = true
        · simp only [if_pos z] at h
          exact ⟨a, bs, dp_py S rx q1, dp_py S ry q2, z.1, z.2, OkD.now h S (rep_bl.mpr rfl)⟩
        · simp only [if_neg z] at h; exact h.elim
      | _ => exact h.elim

/-! ## is None, is True, is False -/
def isD : D → D → Option Bool
  | .non, .non => some true
  | _, .non => some false
  | .bl a, .bl b => some (a == b)
  | _, .bl _ => some false
  | _, _ => none
def fIs (neg : Bool) : D → D → Sto → Out D := fun x y st => match isD x y with
  | some b => .ok (.bl (if neg = true then !b else b)) st
  | none => .bad
/-- .. by values -/
def rIsS (neg : Bool) : R2 := fun x y H Q => (y = .non ∧ Q (.bl (if neg = true then !decide (x = .non) else decide (x = .non))) H) ∨ ∃ b, y = .bl b ∧ Q (.bl (if neg = true then !decide (x = .bl b) else decide (x = .bl b))) H
theorem relV_bl {x : V} {v : Value} {b : Bool} (r : RelV x v) : plainIs v (.bool b) = true ∧ (v == Value.bool b) = decide (x = .bl b) := by
  cases x with
  | non => cases r; exact ⟨rfl, rfl⟩
  | bl c => cases r; exact ⟨rfl, by cases b <;> cases c <;> rfl⟩
  | int _ => obtain ⟨t, rfl⟩ := r; exact ⟨rfl, rfl⟩
  | str _ => obtain ⟨t, rfl⟩ := r; exact ⟨rfl, rfl⟩
  | byt _ => obtain ⟨t, rfl⟩ := r; exact ⟨rfl, rfl⟩
  | flt _ => obtain ⟨t, rfl⟩ := r; exact ⟨rfl, rfl⟩
  | ref _ => cases r; exact ⟨rfl, rfl⟩
  | ty _ => cases r; exact ⟨rfl, rfl⟩
theorem op_isS : OpR X (compareOp .Is) (rIsS false) := by
  intro pins s σ H x y v u Q I rx ry h
  rcases h with ⟨rfl, q⟩ | ⟨b, rfl, q⟩
  · exact op_isN pins s σ H x _ v u Q I rx ry ⟨rfl, q⟩
  · cases ry
    obtain ⟨h1, h2⟩ := relV_bl (b := b) rx
    exact wpAny_is_plain h1 ⟨.bl _, H, I, by rw [h2]; rfl, q⟩
theorem op_notS : OpR X (compareOp .IsNot) (rIsS true) := by
  intro pins s σ H x y v u Q I rx ry h
  rcases h with ⟨rfl, q⟩ | ⟨b, rfl, q⟩
  · exact op_notN pins s σ H x _ v u Q I rx ry ⟨rfl, q⟩
  · cases ry
    obtain ⟨h1, h2⟩ := relV_bl (b := b) rx
    exact wpAny_isNot_plain h1 ⟨.bl _, H, I, by rw [h2]; rfl, q⟩
theorem vop_is {neg : Bool} {G : Gn} : VOp G (rIsS neg) (fIs neg) := by
  intro W σ m p H st x y v u Q S rx ry h
  unfold fIs at h
  cases y with
  | non =>
    refine .inl ⟨rep_non.mp ry, ?_⟩
    cases x with
    | non => rw [rep_non.mp rx]; exact OkD.now h S (rep_bl.mpr (by cases neg <;> rfl))
    | bl _ => rw [rep_bl.mp rx]; exact OkD.now h S (rep_bl.mpr (by cases neg <;> rfl))
    | int _ => rw [rep_int.mp rx]; exact OkD.now h S (rep_bl.mpr (by cases neg <;> rfl))
    | str _ => rw [rep_str.mp rx]; exact OkD.now h S (rep_bl.mpr (by cases neg <;> rfl))
    | tup _ => obtain ⟨a, vs, rfl, _⟩ := rep_tup.mp rx; exact OkD.now h S (rep_bl.mpr (by cases neg <;> rfl))
    | fl _ => obtain ⟨a, vs, rfl, _⟩ := rep_fl.mp rx; exact OkD.now h S (rep_bl.mpr (by cases neg <;> rfl))
    | rl _ => obtain ⟨a, vs, rfl, _⟩ := rep_rl.mp rx; exact OkD.now h S (rep_bl.mpr (by cases neg <;> rfl))
    | ref _ => obtain ⟨a, rfl, _⟩ := rep_ref.mp rx; exact OkD.now h S (rep_bl.mpr (by cases neg <;> rfl))
    | glob _ => obtain ⟨a, rfl, _⟩ := rep_glob.mp rx; exact OkD.now h S (rep_bl.mpr (by cases neg <;> rfl))
  | bl b =>
    refine .inr ⟨b, rep_bl.mp ry, ?_⟩
    cases x with
    | non => rw [rep_non.mp rx]; exact OkD.now h S (rep_bl.mpr (by cases neg <;> rfl))
    | bl c => rw [rep_bl.mp rx]; exact OkD.now h S (rep_bl.mpr (by cases neg <;> cases b <;> cases c <;> rfl))
    | int _ => rw [rep_int.mp rx]; exact OkD.now h S (rep_bl.mpr (by cases neg <;> rfl))
    | str _ => rw [rep_str.mp rx]; exact OkD.now h S (rep_bl.mpr (by cases neg <;> rfl))
    | tup _ => obtain ⟨a, vs, rfl, _⟩ := rep_tup.mp rx; exact OkD.now h S (rep_bl.mpr (by cases neg <;> rfl))
    | fl _ => obtain ⟨a, vs, rfl, _⟩ := rep_fl.mp rx; exact OkD.now h S (rep_bl.mpr (by cases neg <;> rfl))
    | rl _ => obtain ⟨a, vs, rfl, _⟩ := rep_rl.mp rx; exact OkD.now h S (rep_bl.mpr (by cases neg <;> rfl))
    | ref _ => obtain ⟨a, rfl, _⟩ := rep_ref.mp rx; exact OkD.now h S (rep_bl.mpr (by cases neg <;> rfl))
    | glob _ => obtain ⟨a, rfl, _⟩ := rep_glob.mp rx; exact OkD.now h S (rep_bl.mpr (by cases neg <;> rfl))
  | _ => cases x <;> exact h.elim
theorem bo_is : BinOk X (compareOp .Is) (fIs false) := ⟨_, op_isS, vop_is⟩
theorem bo_isNot : BinOk X (compareOp .IsNot) (fIs true) := ⟨_, op_notS, vop_is⟩
end

/-! ## one value -/
def mUn (f : D → Sto → Out D) (a : EM) : EM := fun env st => (a env st).bind f
section
variable {X : Cx} {W : WX} {xs : XSlot} {a : Expr} {pos : Pos} {ca : EM}
def fNeg : D → Sto → Out D
  | .int i, st => .ok (.int (-i)) st
  | _, _ => .bad
theorem me_neg (ha : ME X W xs a ca) : ME X W xs (.UnaryOp .USub a pos) (mUn fNeg ca) :=
  PEi (pe_un un_neg ha) fun σ H Q ⟨m, p, env, st, E, S, h⟩ => ⟨m, p, env, st, E, S, h.andD fun d st1 v m1 H1 e1 s1 r1 h1 => by
    cases d with
    | int i => exact ⟨i, rep_int.mp r1, OkD.now h1 s1 (rep_int.mpr rfl)⟩
    | _ => exact h1.elim⟩
end

/-! ## x[i], x[a:b] -/
def fIx : D → D → Sto → Out D
  | .str z, .int i, st => if z.length ≤ sizeLine then match atI z.cps.toList i with
      | some c => .ok (.str ⟨#[c]⟩) st
      | none => .bad else .bad
  | x, .int i, st => match seqv st x with
    | some ys => match atI ys i with
      | some d => .ok d st
      | none => .bad
    | none => .bad
  | _, _, _ => .bad
theorem atI_reps {G : Gn} {m p : List Addr} {H : Hp} {ys : List D} {vs : List V} {i : Int} {d : D} (r : Reps G m p H ys vs) (h : atI ys i = some d) : ∃ v, atI vs i = some v ∧ Rep G m p H d v := by
  unfold atI at h ⊢
  rw [r.length]
  cases q : ixN ys.length i with
  | none => rw [q] at h; cases h
  | some j =>
    rw [q] at h
    exact r.get (by simpa using h)
section
variable {X : Cx} {W : WX} {xs : XSlot} {a b : Expr} {pos p2 : Pos} {ca cb : EM} {lo hi : Option Expr}
theorem vop_ix {G : Gn} : VOp G (rIx G.K) fIx := by
  intro W σ m p H st x y v u Q S rx ry h
  cases y with
  | int i =>
    have key := fun (hx : fIx x (.int i) st = match seqv st x with
      | some ys => match atI ys i with
        | some d => .ok d st
        | none => .bad
      | none => .bad) => (show rIx G.K v u H Q by
        rw [hx] at h
        cases q1 : seqv st x with
        | none => rw [q1] at h; exact h.elim
        | some ys =>
          rw [q1] at h
          cases q2 : atI ys i with
          | none => simp only [q2] at h; exact h.elim
          | some d =>
            simp only [q2] at h
            obtain ⟨l, vs, rfl, h1, r1⟩ := seqv_rep S rx q1
            obtain ⟨w, h2, r2⟩ := atI_reps r1 q2
            rcases h1 with h1 | h1
            · exact .inl ⟨l, vs, i, w, rfl, rep_int.mp ry, h1, h2, OkD.now h S r2⟩
            · exact .inr (.inl ⟨l, vs, i, w, rfl, rep_int.mp ry, h1, h2, OkD.now h S r2⟩))
    cases x with
    | str z =>
      by_cases q0 : z.length ≤ sizeLine
      · simp only [fIx, if_pos q0] at h
        cases q : atI z.cps.toList i with
        | none => rw [q] at h; exact h.elim
        | some c =>
          rw [q] at h
          exact .inr (.inr ⟨z, i, c, rep_str.mp rx, rep_int.mp ry, q0, q, OkD.now h S (rep_str.mpr rfl)⟩)
      · simp only [fIx, if_neg q0] at h; exact h.elim
    | _ => exact key rfl
  | _ => cases x <;> exact h.elim
theorem me_ix (ha : ME X W xs a ca) (hb : ME X W xs b cb) (hs : PlainIx b := by exact fun _ _ => rfl) : ME X W xs (.Subscript a b pos) (mBin fIx ca cb) :=
  PEi (pe_ix ix_seq ha hb hs) (rdBin vop_ix)

def cutD (xs : List D) (lo hi : Option Int) : List D := (xs.drop (HT.sIx xs.length 0 lo)).take (HT.sIx xs.length xs.length hi - HT.sIx xs.length 0 lo)
theorem cut_reps {G : Gn} {m p : List Addr} {H : Hp} {ys : List D} {vs : List V} {i j : Option Int} (r : Reps G m p H ys vs) : Reps G m p H (cutD ys i j) (cutV vs i j) := by
  unfold cutD cutV
  rw [r.length]
  exact (r.drop _).take _
/-- parts of a slice -/
def oNone : En → Sto → Out D := fun _ st => .ok .non st
def fSl (own : Bool) (x : D) (lo hi : Option Int) (st : Sto) : Out D := match x with
  | .tup ys => .ok (.tup (cutD ys lo hi)) st
  | .str z => if z.length ≤ sizeLine then .ok (.str (Txt.slice z lo hi)) st else .bad
  | x => match lstv st x with
    | some ys => mkL own (cutD ys lo hi) st
    | none => .bad
def partO : D → Option (Option Int)
  | .non => some none
  | .int i => some (some i)
  | _ => none
def mSl (own : Bool) (a lo hi : EM) : EM := fun env st => (a env st).bind fun x st1 => (lo env st1).bind fun l st2 => match partO l with
  | some l' => (hi env st2).bind fun u st3 => match partO u with
    | some u' => fSl own x l' u' st3
    | none => .bad
  | none => .bad
/-- a slice's bound -/
def MO1 (X : Cx) (W : WX) (xs : XSlot) (o : Option Expr) (c : EM) : Prop := ∃ t, PO X o t ∧ ∀ σ H (Q : Option Int → Hp → Prop) m p env st, EnvR (gn X) m p H xs env σ → SR (gn X) m p H st →
  OkD (gn X) W m p H σ (c env st) (fun v H' => ∃ o : Option Int, (v = (match o with
    | none => V.non
    | some i => V.int i)) ∧ Q o H') → t σ H Q
theorem mo_none : MO1 X W xs none oNone := ⟨_, po_none, fun σ H Q m p env st E S h => by
  obtain ⟨o, e, q⟩ := OkD.now h S (rep_non.mpr rfl)
  cases o with
  | none => exact q
  | some i => cases e⟩
def oSome (ca : EM) : EM := fun env st => (ca env st).bind fun d st1 => match d with
  | .int i => .ok (.int i) st1
  | _ => .bad
theorem mo_some (h : ME X W xs a ca) : MO1 X W xs (some a) (oSome ca) := ⟨_, po_some h, fun σ H Q m p env st E S h => ⟨m, p, env, st, E, S, h.andD fun d st1 v m1 H1 e1 s1 r1 h1 => by
    cases d with
    | int i =>
      obtain ⟨o, e, q⟩ := OkD.now h1 s1 r1
      rw [rep_int.mp r1] at e
      cases o with
      | none => cases e
      | some j => cases e; exact ⟨i, rep_int.mp r1, q⟩
    | _ => exact h1.elim⟩⟩
theorem sl_all : SlR X (fun x lo hi H Q => rSlA X.K x lo hi H Q ∨ C8.rSlX x lo hi H Q ∨ rSlL X.K x lo hi H Q) := SlR.or sl_tupA (SlR.or C8.sl_txt sl_list)
theorem me_sl (own : Bool) {clo chi : EM} (ha : ME X W xs a ca) (hl : MO1 X W xs lo clo) (hh : MO1 X W xs hi chi) : ME X W xs (.Subscript a (.Slice lo hi none p2) pos) (mSl own ca clo chi) := by
  obtain ⟨tl, pl, ql⟩ := hl
  obtain ⟨th, ph, qh⟩ := hh
  refine PEi (pe_slice sl_all ha pl ph) fun σ H Q ⟨m, p, env, st, E, S, h⟩ => ⟨m, p, env, st, E, S, h.andD fun x st1 v m1 H1 e1 s1 r1 h1 => ?_⟩
  refine ql σ H1 _ m1 p env st1 (E.ext e1) s1 (h1.andD fun l st2 vl m2 H2 e2 s2 r2 h2 => ?_)
  cases hl' : partO l with
  | none => simp only [hl'] at h2; exact h2.elim
  | some l' =>
    simp only [hl'] at h2
    refine ⟨l', ?_, qh σ H2 _ m2 p env st2 (E.ext (e1.trans e2)) s2 (h2.andD fun u st3 vu m3 H3 e3 s3 r3 h3 => ?_)⟩
    · cases l with
      | non => simp only [partO, Option.some.injEq] at hl'; subst hl'; exact rep_non.mp r2
      | int i => simp only [partO, Option.some.injEq] at hl'; subst hl'; exact rep_int.mp r2
      | _ => simp [partO] at hl'
    · cases hu : partO u with
      | none => simp only [hu] at h3; exact h3.elim
      | some u' =>
        simp only [hu] at h3
        refine ⟨u', ?_, ?_⟩
        · cases u with
          | non => simp only [partO, Option.some.injEq] at hu; subst hu; exact rep_non.mp r3
          | int i => simp only [partO, Option.some.injEq] at hu; subst hu; exact rep_int.mp r3
          | _ => simp [partO] at hu
        · have rx := Rep.ext (e2.trans e3) _ _ r1
          have key := fun (hx : fSl own x l' u' st3 = match lstv st3 x with
            | some ys => mkL own (cutD ys l' u') st3
            | none => .bad) => (show rSlL X.K v l' u' H3 Q by
              simp only [hx] at h3
              cases q1 : lstv st3 x with
              | none => rw [q1] at h3; exact h3.elim
              | some ys =>
                rw [q1] at h3
                obtain ⟨a1, vs, rfl, g1, g2⟩ := lstv_rep s3 rx q1
                exact ⟨a1, vs, rfl, g1, newL h3 s3 (cut_reps g2)⟩)
          cases x with
          | tup ys =>
            obtain ⟨a1, vs, rfl, g1, g2⟩ := rep_tup.mp rx
            refine .inl ⟨a1, vs, rfl, Fz.sqT g1, fun w => ?_, fun _ => newT h3 s3 (cut_reps g2)⟩
            have e0 : cutD ys l' u' = ys := by
              unfold cutD
              rw [g2.length] at w
              rw [w.1, w.2, List.drop_zero, Nat.sub_zero, List.take_length]
            simp only [fSl, e0] at h3
            exact OkD.now h3 s3 rx
          | str z =>
            by_cases q0 : z.length ≤ sizeLine
            · simp only [fSl, if_pos q0] at h3
              exact .inr (.inl ⟨z, rep_str.mp rx, q0, OkD.now h3 s3 (rep_str.mpr rfl)⟩)
            · simp only [fSl, if_neg q0] at h3; exact h3.elim
          | _ => exact .inr (.inr (key rfl))
end
end Mi

namespace Mi
open PySem PySem.Spec PyProof.Rows L2

/-! ## what goes out of a call: new places that nobody names are forgotten -/
mutual
def noRef (k : Nat) : D → Bool
  | .ref n => decide (n < k)
  | .tup ds => noRefs k ds
  | .fl ds => noRefs k ds
  | .rl ds => noRefs k ds
  | _ => true
def noRefs (k : Nat) : List D → Bool
  | [] => true
  | d :: ds => noRef k d && noRefs k ds
end
def noRefK {κ : Type} (k : Nat) : List (κ × D) → Bool
  | [] => true
  | (_, d) :: r => noRef k d && noRefK k r
def noRefO (k : Nat) : MO → Bool
  | .lst ds => noRefs k ds
  | .dk kvs => noRefK k kvs
  | .dt kvs => noRefK k kvs
  | .ins _ fs => noRefK k fs
def shut (k : Nat) (st : Sto) : Bool := (st.take k).all (noRefO k)
def gcD (k : Nat) (d : D) (st : Sto) : Out D := if (noRef k d && shut k st) = true then .ok d (st.take k) else .ok d st
def noRefA (k : Nat) : Option D → Bool
  | none => true
  | some d => noRef k d
def gcX (k : Nat) (x : Str) (v : Option D) (st : Sto) : Out D := if (noRefA k v && shut k st) = true then .exc x v (st.take k) else .exc x v st

mutual
theorem Rep.shrink {G : Gn} {m l p : List Addr} {H : Hp} : ∀ (d : D) (v : V), Rep G (m ++ l) p H d v → noRef m.length d = true → Rep G m p H d v
  | .non, _, h, _ => rep_non.mpr (rep_non.mp h)
  | .bl _, _, h, _ => rep_bl.mpr (rep_bl.mp h)
  | .int _, _, h, _ => rep_int.mpr (rep_int.mp h)
  | .str _, _, h, _ => rep_str.mpr (rep_str.mp h)
  | .glob _, _, h, _ => rep_glob.mpr (rep_glob.mp h)
  | .ref n, _, h, z => by
    obtain ⟨a, e, h1⟩ := rep_ref.mp h
    have z' : n < m.length := by simpa [noRef] using z
    rw [List.getElem?_append_left z'] at h1
    exact rep_ref.mpr ⟨a, e, h1⟩
  | .tup ds, _, h, z => by
    obtain ⟨a, vs, e, h1, h2⟩ := rep_tup.mp h
    exact rep_tup.mpr ⟨a, vs, e, h1.imp (fun q => ⟨q.1, fun y => q.2.1 (List.mem_append_left _ y), q.2.2⟩) id, Reps.shrink ds vs h2 (by simpa [noRef] using z)⟩
  | .rl ds, _, h, z => by
    obtain ⟨a, vs, e, h1, h2⟩ := rep_rl.mp h
    exact rep_rl.mpr ⟨a, vs, e, h1.imp (fun q => ⟨q.1, fun y => q.2.1 (List.mem_append_left _ y), q.2.2⟩) id, Reps.shrink ds vs h2 (by simpa [noRef] using z)⟩
  | .fl ds, _, h, z => by
    obtain ⟨a, vs, e, h1, h2⟩ := rep_fl.mp h
    exact rep_fl.mpr ⟨a, vs, e, ⟨h1.1, fun y => h1.2.1 (List.mem_append_left _ y), h1.2.2⟩, Reps.shrink ds vs h2 (by simpa [noRef] using z)⟩
theorem Reps.shrink {G : Gn} {m l p : List Addr} {H : Hp} : ∀ (ds : List D) (vs : List V), Reps G (m ++ l) p H ds vs → noRefs m.length ds = true → Reps G m p H ds vs
  | [], _, h, _ => reps_nil.mpr (reps_nil.mp h)
  | d :: ds, _, h, z => by
    obtain ⟨v, ws, e, h1, h2⟩ := reps_cons.mp h
    simp only [noRefs, Bool.and_eq_true] at z
    exact reps_cons.mpr ⟨v, ws, e, Rep.shrink d v h1 z.1, Reps.shrink ds ws h2 z.2⟩
end
theorem KvR.shrink {κ : Type} {G : Gn} {m l p : List Addr} {H : Hp} : ∀ {ds : List (κ × D)} {vs : List (κ × V)}, KvR G (m ++ l) p H ds vs → noRefK m.length ds = true → KvR G m p H ds vs
  | [], _, h, _ => h
  | (f, d) :: ds, _, h, z => by
    obtain ⟨v, ws, e, h1, h2⟩ := h
    simp only [noRefK, Bool.and_eq_true] at z
    exact ⟨v, ws, e, Rep.shrink d v h1 z.1, KvR.shrink h2 z.2⟩
theorem MoR.shrink {G : Gn} {m l p : List Addr} {H : Hp} {a : Addr} : ∀ {o : MO}, MoR G (m ++ l) p H o a → noRefO m.length o = true → MoR G m p H o a
  | .lst ds, ⟨vs, h, r⟩, z => ⟨vs, h, Reps.shrink ds vs r z⟩
  | .dk ds, ⟨vs, h, r⟩, z => ⟨vs, h, r.shrink z⟩
  | .dt ds, ⟨vs, h, r⟩, z => ⟨vs, h, r.shrink z⟩
  | .ins c ds, ⟨C, dx, gs, hc, h, r⟩, z => ⟨C, dx, gs, hc, h, r.shrink z⟩
theorem SR.shrink {G : Gn} {m l p : List Addr} {H : Hp} {st : Sto} (S : SR G (m ++ l) p H st) (z : shut m.length st = true) : SR G m p H (st.take m.length) := by
  have hl : m.length ≤ st.length := by rw [← S.len]; simp
  refine ⟨?_, by rw [List.length_take]; omega, fun n a o h1 h2 => ?_, S.lp⟩
  · have h := S.nd
    rw [List.append_assoc] at h
    have h3 := List.nodup_append.mp h
    have h4 := List.nodup_append.mp h3.2.1
    exact List.nodup_append.mpr ⟨h3.1, h4.2.1, fun a ha b hb => h3.2.2 a ha b (List.mem_append_right _ hb)⟩
  · have hn : n < m.length := (List.getElem?_eq_some_iff.mp h1).1
    rw [List.getElem?_take_of_lt hn] at h2
    have r := S.ob n a o (by rw [List.getElem?_append_left hn]; exact h1) h2
    refine r.shrink ?_
    have hm : o ∈ st.take m.length := List.mem_of_getElem? (by rw [List.getElem?_take_of_lt hn]; exact h2)
    exact (List.all_eq_true.mp z) o hm
theorem Ext.shrink {m l : List Addr} {H H' : Hp} (e : Ext m H (m ++ l) H') : Ext m H m H' := ⟨⟨[], by simp, by simp⟩, e.keep, e.live⟩

/-! ## what a def does -/
/-- the wish about what a def lets out -/
abbrev wE (E : XK) : WX := fun cls dx _ H => E cls dx H
abbrev OkF (G : Gn) (m p : List Addr) (H : Hp) (o : Out D) (Q : VK) (E : XK) : Prop := OkD G (wE E) m p H [] o Q
def fnM (n a : Nat) (c : SM) : List D → Sto → Out D := fun ds st =>
  if ds.length = a then match c (ds.map some ++ List.replicate (n - a) none) st with
    | .rt d st' => gcD st.length d st'
    | .nx _ st' => gcD st.length .non st'
    | .exc x v _ st' => gcX st.length x v st'
    | _ => .bad
  else .bad
theorem OkF.gc {G : Gn} {m p : List Addr} {H : Hp} {st st' : Sto} {d : D} {Q : VK} {E : XK} (S : SR G m p H st) (h : OkF G m p H (gcD st.length d st') Q E) :
    ∀ v m' H', Ext m H m' H' → SR G m' p H' st' → Rep G m' p H' d v → Q v H' := by
  intro v m' H' e s r
  unfold gcD at h
  by_cases z : (noRef st.length d && shut st.length st') = true
  · rw [if_pos z] at h
    simp only [Bool.and_eq_true] at z
    obtain ⟨l, rfl, hl⟩ := e.pre
    rw [← S.len] at h z
    exact h v m H' e.shrink (s.shrink z.2) (Rep.shrink d v r z.1)
  · rw [if_neg z] at h
    exact h v m' H' e s r
theorem OkF.gx {G : Gn} {m p : List Addr} {H : Hp} {st st' : Sto} {x : Str} {a : Option D} {Q : VK} {E : XK} (S : SR G m p H st) (h : OkF G m p H (gcX st.length x a st') Q E) :
    ∀ m' H' cls dx, Ext m H m' H' → SR G m' p H' st' → ExcR G m' p H' x a cls dx → E cls dx H' := by
  intro m' H' cls dx e s r
  unfold gcX at h
  by_cases z : (noRefA st.length a && shut st.length st') = true
  · rw [if_pos z] at h
    simp only [Bool.and_eq_true] at z
    obtain ⟨l, rfl, hl⟩ := e.pre
    rw [← S.len] at h z
    refine h m H' cls dx e.shrink (s.shrink z.2) ⟨r.1, ?_⟩
    have r2 := r.2
    cases a with
    | none => exact r2
    | some d =>
      obtain ⟨q, fs, v, h1, h2, h3, h4, h5⟩ := r2
      exact ⟨q, fs, v, h1, fun y => h2 (List.mem_append_left _ y), h3, h4, Rep.shrink d v h5 z.1⟩
  · rw [if_neg z] at h
    exact h m' H' cls dx e s r

/-- the promise of a def that does F -/
def spM (G : Gn) (n : Nat) (F : List D → Sto → Out D) : Sp := fun vs H Q E => ∃ m p ds st, Reps G m p H ds vs ∧ SR G m p H st ∧ ds.length = n ∧ OkF G m p H (F ds st) Q E

/-- a def, in calls where nothing is being shown (repr) -/
structure FnG (P : Program) (w : World) (K : PySem.W.Frag) (mg : Str → Option Value) (base : Heap) (k : Nat) (f : Addr) (fd : FuncData) (ps : List Str) (F : List D → Sto → Out D) : Prop where
  run : ∀ (A : Around) (outer : List Env) (s : Shared) (H : Hp) (args : Args) (us : List Value) (vs : List V) (Q : VK) (E : XK), Room k A → A.guards = some [] →
    Env0 P w K mg base A outer s H → BindsTo s fd args (ps.zip us) → Vals vs us → spM ⟨K, mg⟩ ps.length F vs H Q E →
    codeAny (model P w) A (.call (.ref f) args) (CR (L2.CX P w) outer P w H s Q E) s
theorem FnG.up {P : Program} {w : World} {K : PySem.W.Frag} {mg : Str → Option Value} {base : Heap} {j k : Nat} {f : Addr} {fd : FuncData} {ps : List Str} {F : List D → Sto → Out D} (h : FnG P w K mg base j f fd ps F) (hk : j ≤ k) :
    FnG P w K mg base k f fd ps F := ⟨fun A outer s H args us vs Q E hr => h.run A outer s H args us vs Q E (hr.mono hk)⟩

/-- the frame at a def's entry -/
theorem EnvR.start {G : Gn} {m p : List Addr} {H : Hp} {N : List Str} {ds : List D} {vs : List V} (r : Reps G m p H ds vs) (hn : ds.length ≤ N.length) :
    EnvR G m p H none (ds.map some ++ List.replicate (N.length - ds.length) none) (L2.start N vs) := by
  refine ⟨?_, fun i d hi => .inr ⟨fun q z => (by cases z), ?_⟩⟩
  · unfold L2.start
    simp [r.length]
  · by_cases hlt : i < ds.length
    · rw [List.getElem?_append_left (by simpa using hlt), List.getElem?_map] at hi
      cases q : ds[i]? with
      | none => rw [q] at hi; cases hi
      | some e =>
        rw [q] at hi
        cases hi
        obtain ⟨v, h1, h2⟩ := r.get q
        refine ⟨v, ?_, h2⟩
        unfold L2.start
        rw [List.getElem?_append_left (by rw [List.length_map, r.length]; exact hlt), List.getElem?_map, h1]
        rfl
    · rw [List.getElem?_append_right (by simpa using Nat.le_of_not_lt hlt), List.getElem?_replicate] at hi
      split at hi <;> cases hi

section
variable {P : Program} {w : World} {K : PySem.W.Frag} {mg : Str → Option Value} {base : Heap}
abbrev bx (P : Program) (w : World) (K : PySem.W.Frag) (mg : Str → Option Value) (base : Heap) (N : List Str) (qual : Str) (sc : Scope) (f : Addr) (cd : Value) (A : Around) (outer : List Env) (s : Shared) (H : Hp) (E : XK) : Cx :=
  cxOf (L2.CX P w) P w K mg base N qual sc f cd A outer s H E

/-- a def of the text does what its body's term says -/
theorem fn_g {x qual : Str} {st : Stmt} {f : Addr} {fd : FuncData} {N ps : List Str} {k : Nat} {c : SM} (F : Fun K x qual st f fd) (S : FnScope N ps (defScope st)) (hpn : ps.length ≤ N.length)
    (hb : ∀ (cd : Value) (A : Around) (outer : List Env) (s : Shared) (H : Hp) (E : XK), Room k (bx P w K mg base N qual (defScope st) f cd A outer s H E).A → (bx P w K mg base N qual (defScope st) f cd A outer s H E).A.guards = some [] →
      PassesOwn (model P w) (bx P w K mg base N qual (defScope st) f cd A outer s H E).A (bx P w K mg base N qual (defScope st) f cd A outer s H E).env (bx P w K mg base N qual (defScope st) f cd A outer s H E).xe →
      Takes (bx P w K mg base N qual (defScope st) f cd A outer s H E) (wE E) → MSs (bx P w K mg base N qual (defScope st) f cd A outer s H E) (wE E) none (defBody st) c) :
    FnG P w K mg base (k + 1) f fd ps (fnM N.length ps.length c) := by
  obtain ⟨oc, od, kV, doc, pm, an, cdv, ct, osl, rfl, lk, hcd⟩ := F.ex
  constructor
  intro A outer s H args us vs Q E hr hgd e0 hbind r hsp
  obtain ⟨m, p, ds, sto, rds, S0, hlen, ho⟩ := hsp
  have hvl : vs.length = ps.length := by rw [rds.length, hlen]
  have inHeap : K.In s.heap := e0.mod.kin.keeps fun b o q => (e0.bs b o q).1
  have noLim : s.heap.NoLimit := e0.mod.nolimit.keeps fun b o q => (e0.bs b o q).1
  have kinds : ∀ y ∈ ps.zip us, (defScope st).names.lookup y.1 = some .local ∨ ((defScope st).names.lookup y.1 = some .cell ∧ ((cellsFrom (s.heap.objs.size + 1) (defScope st).names []).lookup y.1).isSome = true) := by
    rintro ⟨n, v⟩ hy
    exact (S.par n (List.of_mem_zip hy).1).imp id fun q => ⟨q, PySem.W.cellsFrom_some _ _ _ (.inl q)⟩
  refine codeAny_call_function hr.depth (inHeap _ _ lk) rfl S.co S.gen rfl (PySem.W.codeRec_of inHeap hcd) (hbind _ _ _ _ ?_)
  refine wpAny_newFunctionEnv_cells S.kind kinds fun env he s1 xc => ?_
  subst he
  refine ⟨noLim.keeps xc.toInCall.keep, codeAny_func ?_⟩
  have hB := hb cdv A outer s H E (hr.deeper _) hgd (passes_of rfl) (takes_of rfl rfl rfl rfl)
  have I := inv_start (CX := L2.CX P w) (E := E) S hr.hd e0 hvl r xc
  have hq : rdS ⟨K, mg⟩ (wE E) none c { nx := fun _ H' => Q .non H', rt := Q } (L2.start N vs) H := by
    refine ⟨m, p, _, sto, EnvR.start rds (by omega), S0, ?_⟩
    unfold fnM at ho
    rw [if_pos hlen] at ho
    rw [hlen]
    cases q : c (ds.map some ++ List.replicate (N.length - ps.length) none) sto with
    | rt d st' => rw [q] at ho; exact ho.gc S0
    | nx e st' => rw [q] at ho; exact fun σ' m' H' e1 _ s1 => ho.gc S0 .non m' H' e1 s1 (rep_non.mpr rfl)
    | exc x a e st' => rw [q] at ho; exact fun σ' m' H' cls dx e1 _ s1 r1 => ho.gx S0 m' H' cls dx e1 s1 r1
    | bk _ _ => rw [q] at ho; exact ho.elim
    | ct _ _ => rw [q] at ho; exact ho.elim
    | bad => rw [q] at ho; exact ho.elim
  refine wpAny_mono (hB.run [] s1 (L2.start N vs) H _ I hq) (fun fl s' hs => ?_) fun e s' hs => hs
  cases fl with
  | ret u =>
    obtain ⟨v, σ', H', J, rv, q⟩ := hs
    exact ⟨v, H', J.os, J.bare, J.base, J.hok, rv, q⟩
  | next =>
    obtain ⟨σ', H', J, q⟩ := hs
    exact ⟨V.non, H', J.os, J.bare, J.base, J.hok, rfl, q⟩
  | brk => exact (hs.choose_spec.choose_spec.2 : False).elim
  | cont => exact (hs.choose_spec.choose_spec.2 : False).elim
end

/-! ## calls -/
/-- the arguments in the parameters' order -/
def sel {α : Type} (π : List Nat) (l : List α) : List α := π.filterMap (l[·]?)
theorem sel_reps {G : Gn} {m p : List Addr} {H : Hp} {ds : List D} {vs : List V} (r : Reps G m p H ds vs) : ∀ π : List Nat, Reps G m p H (sel π ds) (sel π vs)
  | [] => reps_nil.mpr rfl
  | i :: π => by
    have ih := sel_reps r π
    unfold sel at ih ⊢
    cases q : ds[i]? with
    | none =>
      have q2 : vs[i]? = none := by rw [List.getElem?_eq_none_iff, r.length]; exact List.getElem?_eq_none_iff.mp q
      rw [List.filterMap_cons_none q, List.filterMap_cons_none q2]
      exact ih
    | some d =>
      obtain ⟨v, h1, h2⟩ := r.get q
      rw [List.filterMap_cons_some q, List.filterMap_cons_some h1]
      exact reps_cons.mpr ⟨v, _, rfl, h2, ih⟩
theorem sel_vals {vs : List V} {us : List Value} (r : Vals vs us) : ∀ π : List Nat, Vals (sel π vs) (sel π us)
  | [] => .nil
  | i :: π => by
    have ih := sel_vals r π
    unfold sel at ih ⊢
    cases q : vs[i]? with
    | none =>
      have q2 : us[i]? = none := r.none_of q
      rw [List.filterMap_cons_none q, List.filterMap_cons_none q2]
      exact ih
    | some d =>
      obtain ⟨v, h1, h2⟩ := r.get q
      rw [List.filterMap_cons_some q, List.filterMap_cons_some h1]
      exact .cons h2 ih
/-- how a call with n positional values and keywords ks binds -/
def BindK (fd : FuncData) (ps : List Str) (n : Nat) (ks : List Str) (π : List Nat) : Prop :=
  ∀ us ws : List Value, us.length = n → ws.length = ks.length → bindArgs fd ⟨us, ks.zip ws⟩ = pure (ps.zip (sel π (us ++ ws)))

/-- a def as the callers see it -/
structure Cal (P : Program) (w : World) (K : PySem.W.Frag) (mg : Str → Option Value) (base : Heap) (k : Nat) (x : Str) (n : Nat) (ks : List Str) (π : List Nat) (F : List D → Sto → Out D) : Prop where
  ex : ∃ f fd ps, mg x = some (.ref f) ∧ PySem.W.keepIn K (.ref f) = true ∧ BindK fd ps n ks π ∧ FnG P w K mg base k f fd ps F ∧ π.length = ps.length ∧ ∀ i ∈ π, i < n + ks.length

def mCall (F : List D → Sto → Out D) (n m : Nat) (π : List Nat) (a k : AM) : EM := fun env st => (a env st).bind fun ds st1 => (k env st1).bind fun es st2 => if ds.length = n ∧ es.length = m then F (sel π (ds ++ es)) st2 else .bad
def MK (X : Cx) (W : WX) (xs : XSlot) (kws : List Keyword) (c : AM) : Prop := PK X kws (rdA (gn X) W xs c)
section
variable {X : Cx} {W : WX} {xs : XSlot} {e : Expr} {es : List Expr} {kws : List Keyword} {nm : Option Str} {p pos kpos : Pos} {ca : EM} {r rk : AM} {x : Str} {ks : List Str} {π : List Nat} {F : List D → Sto → Out D} {k n : Nat}
theorem mk_nil : MK X W xs [] aNil := ⟨fun po pins s σ H Q I ⟨m, p, env, st, E, S, h⟩ => (pk_nil (X := X)).run po pins s σ H Q I (OkA.now h S (reps_nil.mpr rfl))⟩
theorem mk_cons (ha : ME X W xs e ca) (hr : MK X W xs kws r) : MK X W xs (⟨nm, e, kpos⟩ :: kws) (aCons ca r) :=
  ⟨fun po pins s σ H Q I ⟨m, p, env, st, E, S, h⟩ => (pk_cons (nm := nm) (kpos := kpos) ha hr).run po pins s σ H Q I
    ⟨m, p, env, st, E, S, h.andD fun x st1 v m1 H1 e1 s1 r1 h1 => ⟨m1, p, env, st1, E.ext e1, s1, h1.andA fun ys st2 vs m2 H2 e2 s2 r2 h2 => OkA.now h2 s2 (reps_cons.mpr ⟨v, vs, rfl, Rep.ext e2 _ _ r1, r2⟩)⟩⟩⟩

/-- the callee runs -/
theorem run_g {pins : List (Addr × Obj)} {σ : L2.St} {H : Hp} {s : Shared} {Q : VK} {us ws : List Value} {vs zs : List V} {m po : List Addr} {ds dz : List D} {st : Sto} {f : Addr} {fd : FuncData} {ps : List Str} (tk : Takes X W) (hr : Room k X.A) (hgd : X.A.guards = some [])
    (B : BindK fd ps n ks π) (F' : FnG X.prog X.w X.K X.mg X.base k f fd ps F) (I : Inv X pins σ H s) (r : Vals vs us) (rz : Vals zs ws) (q1 : Reps (gn X) m po H ds vs) (q2 : Reps (gn X) m po H dz zs) (S : SR (gn X) m po H st)
    (hn : ds.length = n) (hk : dz.length = ks.length) (hl : (sel π (ds ++ dz)).length = ps.length) (ho : OkD (gn X) W m po H σ (F (sel π (ds ++ dz)) st) Q) :
    wpAny (model X.prog X.w) X.A (call (.ref f) us (ks.zip ws)) (EP X pins σ Q) X.xe s := by
  have l1 : us.length = n := by rw [← r.length, q1.length, hn]
  have l2 : ws.length = ks.length := by rw [← rz.length, q2.length, hk]
  have goal := F'.run X.A X.stack s H ⟨us, ks.zip ws⟩ (sel π (us ++ ws)) (sel π (vs ++ zs)) Q (fun cls dx H' => W cls dx σ H') hr hgd I.env0 (.of_eq (B us ws l1 l2)) (sel_vals (r.append rz) π)
    ⟨m, po, sel π (ds ++ dz), st, sel_reps (q1.append q2) π, S, hl, ho⟩
  refine wpAny_call (codeAny_mono goal fun res s' hq => ?_)
  cases res with
  | error e => exact tk e s' (XE.of_call I (fun _ _ _ z => z) hq)
  | ok fl =>
    cases fl with
    | ret u => exact I.after hq
    | next => exact (hq : False).elim
    | brk => exact (hq : False).elim
    | cont => exact (hq : False).elim
theorem sel_len {α : Type} : ∀ {π : List Nat} {l : List α}, (∀ i ∈ π, i < l.length) → (sel π l).length = π.length
  | [], _, _ => rfl
  | i :: π, l, h => by
    have ih := sel_len (π := π) (l := l) fun j hj => h j (List.mem_cons_of_mem _ hj)
    have hi : l[i]? = some (l[i]'(h i List.mem_cons_self)) := List.getElem?_eq_getElem _
    unfold sel at ih ⊢
    rw [List.filterMap_cons_some hi, List.length_cons, List.length_cons, ih]
/-- f(e, .., k = v, ..): what all four forms share -/
theorem call_fin {pins : List (Addr × Obj)} {σ : L2.St} {H : Hp} {s : Shared} {Q : VK} {us ws : List Value} {vs zs : List V} {m po : List Addr} {ds dz : List D} {st : Sto} {f : Addr} {fd : FuncData} {ps : List Str} (tk : Takes X W) (hr : Room k X.A) (hgd : X.A.guards = some [])
    (B : BindK fd ps n ks π) (F' : FnG X.prog X.w X.K X.mg X.base k f fd ps F) (hp1 : π.length = ps.length) (hp2 : ∀ i ∈ π, i < n + ks.length) (I : Inv X pins σ H s) (r : Vals vs us) (rz : Vals zs ws) (q1 : Reps (gn X) m po H ds vs) (q2 : Reps (gn X) m po H dz zs) (S : SR (gn X) m po H st)
    (ho : OkD (gn X) W m po H σ (if ds.length = n ∧ dz.length = ks.length then F (sel π (ds ++ dz)) st else .bad) Q) :
    wpAny (model X.prog X.w) X.A (call (.ref f) us (ks.zip ws)) (EP X pins σ Q) X.xe s := by
  by_cases z : ds.length = n ∧ dz.length = ks.length
  · rw [if_pos z] at ho
    exact run_g tk hr hgd B F' I r rz q1 q2 S z.1 z.2 ((sel_len fun i hi => by rw [List.length_append, z.1, z.2]; exact hp2 i hi).trans hp1) ho
  · rw [if_neg z] at ho; exact ho.elim
variable (tk : Takes X W) (hr : Room k X.A) (hgd : X.A.guards = some []) (C : Cal X.prog X.w X.K X.mg X.base k x n ks π F) (hg : Gl X x)
include tk hr hgd C hg
/-- f(e, ..) -/
theorem me_call (hks : ks = []) (ha : MA X W xs (e :: es) r) (hdb : (x == ("__debug__" : Str)) = false := by decide) (he : starEach (e :: es) X.env = (false, eval e X.env) :: starEach es X.env := by rfl)
    (hpl : (backTo pos (starEach es X.env)).any (·.1) = false := by rfl) : ME X W xs (.Call (.Name x p) (e :: es) [] pos) (mCall F n 0 π r aNil) := by
  subst hks
  obtain ⟨f, fd, ps, hm, hk, B, F', hp1, hp2⟩ := C.ex
  refine ⟨fun pins s σ H Q I ⟨m, po, env, st, E, S, h⟩ => ?_⟩
  refine wpAny_Call_Name_kw (ld_glob I hg hm ?_ hdb)
  refine PySem.W.callWith_K (h₀ := X.base) I.ok.mod.kin hk (thn (ha.run pos pins s σ H _ I ⟨m, po, env, st, E, S, h.andA fun ds st1 vs m1 H1 e1 s1 r1 h1 => (show ∃ m1 ds st1, Reps (gn X) m1 po H1 ds vs ∧ SR (gn X) m1 po H1 st1 ∧
      OkD (gn X) W m1 po H1 σ (if ds.length = n ∧ ([] : List D).length = 0 then F (sel π (ds ++ [])) st1 else .bad) Q from ⟨m1, ds, st1, r1, s1, h1⟩)⟩)
    fun us s1 ⟨vs, H1, I1, rv, m1, ds, st1, r1, s1', h1⟩ => ⟨I1.kIn, ?_⟩) he hpl
  exact call_fin (ks := []) (ws := []) (zs := []) (dz := []) tk hr hgd B F' hp1 hp2 I1 rv .nil r1 (reps_nil.mpr rfl) s1' h1
/-- f() -/
theorem me_call0 (hks : ks = []) (hn : n = 0) (hdb : (x == ("__debug__" : Str)) = false := by decide) : ME X W xs (.Call (.Name x p) [] [] pos) (mCall F 0 0 π aNil aNil) := by
  subst hks; subst hn
  obtain ⟨f, fd, ps, hm, hk, B, F', hp1, hp2⟩ := C.ex
  refine ⟨fun pins s σ H Q I ⟨m, po, env, st, E, S, h⟩ => ?_⟩
  refine wpAny_Call_Name_kw (ld_glob I hg hm ?_ hdb)
  refine PySem.W.callWith_K0 I.kIn hk ?_
  exact call_fin (ks := []) (ws := []) (zs := []) (dz := []) (ds := []) (vs := []) (us := []) tk hr hgd B F' hp1 hp2 I .nil .nil (reps_nil.mpr rfl) (reps_nil.mpr rfl) S h
/-- f(k = v, ..) -/
theorem me_callK0 (hn : n = 0) (hkw : MK X W xs kws rk) (hall : (backToKw pos (keywordEach kws X.env)).all (·.1.isSome) = true := by rfl) (hks : (backToKw pos (keywordEach kws X.env)).filterMap (·.1) = ks := by rfl)
    (hdb : (x == ("__debug__" : Str)) = false := by decide) (hpl : ((backTo pos (starEach [] X.env)).any (·.1) || (backToKw pos (keywordEach kws X.env)).any (·.1.isNone)) = false := by rfl) :
    ME X W xs (.Call (.Name x p) [] kws pos) (mCall F 0 ks.length π aNil rk) := by
  subst hn
  obtain ⟨f, fd, ps, hm, hk, B, F', hp1, hp2⟩ := C.ex
  refine ⟨fun pins s σ H Q I ⟨m, po, env, st, E, S, h⟩ => ?_⟩
  refine wpAny_Call_Name_kw (ld_glob I hg hm ?_ hdb)
  refine PySem.W.callWith_KW0 (h₀ := X.base) I.ok.mod.kin hk hall ?_ hpl
  refine thn (hkw.run pos pins s σ H _ I ⟨m, po, env, st, E, S, OkD.andA (show OkD (gn X) W m po H σ ((rk env st).bind fun es st2 => if ([] : List D).length = 0 ∧ es.length = ks.length then F (sel π ([] ++ es)) st2 else .bad) Q from h) fun ds st1 vs m1 H1 e1 s1 r1 h1 =>
    (show ∃ m1 ds st1, Reps (gn X) m1 po H1 ds vs ∧ SR (gn X) m1 po H1 st1 ∧ OkD (gn X) W m1 po H1 σ (if ([] : List D).length = 0 ∧ ds.length = ks.length then F (sel π ([] ++ ds)) st1 else .bad) Q from ⟨m1, ds, st1, r1, s1, h1⟩)⟩)
    fun ws s1 ⟨zs, H1, I1, rz, m1, dz, st1, r1, s1', h1⟩ => ⟨I1.kIn, ?_⟩
  rw [hks]
  exact call_fin (ds := []) (vs := []) (us := []) tk hr hgd B F' hp1 hp2 I1 .nil rz (reps_nil.mpr rfl) r1 s1' h1
/-- f(e, .., k = v, ..) -/
theorem me_callK (ha : MA X W xs (e :: es) r) (hkw : MK X W xs kws rk) (hall : (backToKw pos (keywordEach kws X.env)).all (·.1.isSome) = true := by rfl) (hks : (backToKw pos (keywordEach kws X.env)).filterMap (·.1) = ks := by rfl)
    (hdb : (x == ("__debug__" : Str)) = false := by decide) (he : starEach (e :: es) X.env = (false, eval e X.env) :: starEach es X.env := by rfl)
    (hpl : ((backTo pos (starEach (e :: es) X.env)).any (·.1) || (backToKw pos (keywordEach kws X.env)).any (·.1.isNone)) = false := by rfl) :
    ME X W xs (.Call (.Name x p) (e :: es) kws pos) (mCall F n ks.length π r rk) := by
  obtain ⟨f, fd, ps, hm, hk, B, F', hp1, hp2⟩ := C.ex
  refine ⟨fun pins s σ H Q I ⟨m, po, env, st, E, S, h⟩ => ?_⟩
  refine wpAny_Call_Name_kw (ld_glob I hg hm ?_ hdb)
  refine PySem.W.callWith_KW (h₀ := X.base) I.ok.mod.kin hk hall ?_ hpl he
  refine thn (ha.run pos pins s σ H _ I ⟨m, po, env, st, E, S, h.andA fun ds st1 vs m1 H1 e1 s1 r1 h1 => (show ∃ m1 ds st1, EnvR (gn X) m1 po H1 xs env σ ∧ Reps (gn X) m1 po H1 ds vs ∧ SR (gn X) m1 po H1 st1 ∧
      OkD (gn X) W m1 po H1 σ ((rk env st1).bind fun es st2 => if ds.length = n ∧ es.length = ks.length then F (sel π (ds ++ es)) st2 else .bad) Q from ⟨m1, ds, st1, E.ext e1, r1, s1, h1⟩)⟩)
    fun us s1 ⟨vs, H1, I1, rv, m1, ds, st1, E1, r1, s1', h1⟩ => ?_
  refine thn (hkw.run pos pins s1 σ H1 _ I1 ⟨m1, po, env, st1, E1, s1', h1.andA fun dz st2 zs m2 H2 e2 s2 r2 h2 => (show ∃ m2 dz st2, Reps (gn X) m2 po H2 ds vs ∧ Reps (gn X) m2 po H2 dz zs ∧ SR (gn X) m2 po H2 st2 ∧
      OkD (gn X) W m2 po H2 σ (if ds.length = n ∧ dz.length = ks.length then F (sel π (ds ++ dz)) st2 else .bad) Q from ⟨m2, dz, st2, Reps.ext e2 _ _ r1, r2, s2, h2⟩)⟩)
    fun ws s2 ⟨zs, H2, I2, rz, m2, dz, st2, r1', r2, s2', h2⟩ => ⟨I2.kIn, ?_⟩
  rw [hks]
  exact call_fin tk hr hgd B F' hp1 hp2 I2 rv rz r1' r2 s2' h2
end
end Mi

namespace Mi
open PySem L2

/-! ## statements -/
def Out.toS {α : Type} (o : Out α) (env : En) (k : α → Sto → SO) : SO := match o with
  | .ok a st => k a st
  | .exc x v st => .exc x v env st
  | .bad => .bad
section
variable {G : Gn} {W : WX} {xs : XSlot} {m p : List Addr} {H : Hp} {σ : St} {env : En} {Dn : Ends}
theorem OkS.andD {o : Out D} {k : D → Sto → SO} {P : VK} (h : OkS G W xs m p H (o.toS env k) Dn) (E : EnvR G m p H xs env σ)
    (hp : ∀ d st1 v m1 H1, Ext m H m1 H1 → SR G m1 p H1 st1 → Rep G m1 p H1 d v → OkS G W xs m1 p H1 (k d st1) Dn → P v H1) : OkD G W m p H σ o P := by
  cases o with
  | ok d st => exact fun v m1 H1 e s r => hp d st v m1 H1 e s r (OkS.ext h e)
  | exc x a st => exact fun m' H' cls dx e s r => h σ m' H' cls dx e (E.ext e) s r
  | bad => exact h
theorem OkS.andB {o : Out Bool} {k : Bool → Sto → SO} {P : Bool → Hp → Prop} (h : OkS G W xs m p H (o.toS env k) Dn) (E : EnvR G m p H xs env σ)
    (hp : ∀ d st1 m1 H1, Ext m H m1 H1 → SR G m1 p H1 st1 → OkS G W xs m1 p H1 (k d st1) Dn → P d H1) : OkB G W m p H σ o P := by
  cases o with
  | ok d st => exact fun m1 H1 e s => hp d st m1 H1 e s (OkS.ext h e)
  | exc x a st => exact fun m' H' cls dx e s r => h σ m' H' cls dx e (E.ext e) s r
  | bad => exact h
theorem OkS.andA {o : Out (List D)} {k : List D → Sto → SO} {P : List V → Hp → Prop} (h : OkS G W xs m p H (o.toS env k) Dn) (E : EnvR G m p H xs env σ)
    (hp : ∀ d st1 v m1 H1, Ext m H m1 H1 → SR G m1 p H1 st1 → Reps G m1 p H1 d v → OkS G W xs m1 p H1 (k d st1) Dn → P v H1) : OkA G W m p H σ o P := by
  cases o with
  | ok d st => exact fun v m1 H1 e s r => hp d st v m1 H1 e s r (OkS.ext h e)
  | exc x a st => exact fun m' H' cls dx e s r => h σ m' H' cls dx e (E.ext e) s r
  | bad => exact h
theorem OkS.nowN {e : En} {st : Sto} (h : OkS G W xs m p H (.nx e st) Dn) (E : EnvR G m p H xs e σ) (S : SR G m p H st) : Dn.nx σ H := h σ m H Ext.refl E S
theorem OkS.nowR {d : D} {v : V} {st : Sto} (h : OkS G W xs m p H (.rt d st) Dn) (S : SR G m p H st) (r : Rep G m p H d v) : Dn.rt v H := h v m H Ext.refl S r
end

def sNil : SM := fun e st => .nx e st
def SO.seq (o : SO) (b : SM) : SO := match o with
  | .nx e1 st1 => b e1 st1
  | o => o
def sSeq (a b : SM) : SM := fun e st => (a e st).seq b
def sBrk : SM := fun e st => .bk e st
def sCnt : SM := fun e st => .ct e st
def sNever : SM := fun _ _ => .bad
def sDrop (c : EM) : SM := fun e st => (c e st).toS e fun _ st1 => .nx e st1
def sRet (c : EM) : SM := fun e st => (c e st).toS e fun d st1 => .rt d st1
def sRetN : SM := fun _ st => .rt .non st
def sIf (c : TM) (a b : SM) : SM := fun e st => (c e st).toS e fun k st1 => if k = true then a e st1 else b e st1
section
variable {X : Cx} {W : WX} {xs : XSlot} {st : Stmt} {rest : List Stmt} {a b : SM} {e : Expr} {c : EM} {tc : TM} {pos : Pos}
theorem ms_nil : MSs X W xs [] sNil := PSsi pss_nil fun Dn σ H ⟨m, p, env, sto, E, S, h⟩ => OkS.nowN h E S
theorem ms_cons (h1 : MS X W xs st a) (h2 : MSs X W xs rest b) : MSs X W xs (st :: rest) (sSeq a b) :=
  PSsi (pss_cons h1 h2) fun Dn σ H ⟨m, p, env, sto, E, S, h⟩ => ⟨m, p, env, sto, E, S, by
    unfold sSeq SO.seq at h
    cases q : a env sto with
    | nx e1 st1 => rw [q] at h; exact fun σ' m' H' x E' S' => ⟨m', p, e1, st1, E', S', OkS.ext h x⟩
    | rt _ _ => rw [q] at h; exact h
    | bk _ _ => rw [q] at h; exact h
    | ct _ _ => rw [q] at h; exact h
    | exc _ _ _ _ => rw [q] at h; exact h
    | bad => rw [q] at h; exact h⟩
theorem ms_one (h1 : MS X W xs st a) : MSs X W xs [st] a := pss_one h1
theorem ms_pass : MS X W xs (.Pass pos) sNil := PSi ps_pass fun Dn σ H ⟨m, p, env, sto, E, S, h⟩ => OkS.nowN h E S
theorem ms_brk : MS X W xs (.Break pos) sBrk := PSi ps_break fun Dn σ H ⟨m, p, env, sto, E, S, h⟩ => h σ m H Ext.refl E S
theorem ms_cnt : MS X W xs (.Continue pos) sCnt := PSi ps_continue fun Dn σ H ⟨m, p, env, sto, E, S, h⟩ => h σ m H Ext.refl E S
theorem ms_never : MS X W xs st sNever := PSi ps_never fun Dn σ H ⟨m, p, env, sto, E, S, h⟩ => h
theorem mss_never {sts : List Stmt} : MSs X W xs sts sNever := PSsi pss_never fun Dn σ H ⟨m, p, env, sto, E, S, h⟩ => h
theorem ms_drop (h : ME X W xs e c) (hs : swapsWith e none pos.line X.env = pure false := by rfl) : MS X W xs (.Expr e pos) (sDrop c) :=
  PSi (ps_expr h hs) fun Dn σ H ⟨m, p, env, sto, E, S, h⟩ => ⟨m, p, env, sto, E, S, h.andD E fun d st1 v m1 H1 e1 s1 r1 h1 => OkS.nowN h1 (E.ext e1) s1⟩
theorem ms_ret (h : ME X W xs e c) : MS X W xs (.Return (some e) pos) (sRet c) :=
  PSi (ps_ret h) fun Dn σ H ⟨m, p, env, sto, E, S, h⟩ => ⟨m, p, env, sto, E, S, h.andD E fun d st1 v m1 H1 e1 s1 r1 h1 => OkS.nowR h1 s1 r1⟩
theorem ms_retN : MS X W xs (.Return none pos) sRetN := PSi ps_retN fun Dn σ H ⟨m, p, env, sto, E, S, h⟩ => OkS.nowR h S (rep_non.mpr rfl)
theorem ms_if {sa sb : List Stmt} (hc : MT X W xs e tc) (ha : MSs X W xs sa a) (hb : MSs X W xs sb b) : MS X W xs (.If e sa sb pos) (sIf tc a b) :=
  PSi (ps_if hc ha hb) fun Dn σ H ⟨m, p, env, sto, E, S, h⟩ => ⟨m, p, env, sto, E, S, h.andB E fun k st1 m1 H1 e1 s1 h1 => by
    cases k with
    | true => exact ⟨m1, p, env, st1, E.ext e1, s1, h1⟩
    | false => exact ⟨m1, p, env, st1, E.ext e1, s1, h1⟩⟩
end

/-! ## targets -/
def gN (i : Nat) : D → En → Option En := fun d e => some (e.set i (some d))
def gsNil : List D → En → Option En := fun ds e => match ds with
  | [] => some e
  | _ => none
def gsCons (g : D → En → Option En) (r : List D → En → Option En) : List D → En → Option En := fun ds e => match ds with
  | d :: ds => (g d e).bind (r ds)
  | [] => none
def gT (n : Nat) (g : List D → En → Option En) : D → En → Option En := fun d e => match d with
  | .tup ds => if ds.length = n then g ds e else none
  | _ => none
def MG (X : Cx) (xs : XSlot) (tg : Expr) (g : D → En → Option En) : Prop := ∃ t, PG X tg t ∧ ∀ σ H (Q : St → Hp → Prop) m p env d v env', EnvR (gn X) m p H xs env σ → Rep (gn X) m p H d v → g d env = some env' →
  (∀ σ', EnvR (gn X) m p H xs env' σ' → Q σ' H) → t v σ H Q
def MGs (X : Cx) (xs : XSlot) (tg : List Expr) (g : List D → En → Option En) : Prop := ∃ t, PGs X tg t ∧ ∀ σ H (Q : St → Hp → Prop) m p env d v env', EnvR (gn X) m p H xs env σ → Reps (gn X) m p H d v → g d env = some env' →
  (∀ σ', EnvR (gn X) m p H xs env' σ' → Q σ' H) → t v σ H Q
section
variable {X : Cx} {xs : XSlot} {e : Expr} {es : List Expr} {pos : Pos} {g : D → En → Option En} {gs : List D → En → Option En}
theorem mg_name (i : Nat) {x : Str} (hN : X.N.Nodup) (hq : ∀ q, xs ≠ some (i, q) := by intro q z; cases z) (hi : X.N[i]? = some x := by rfl) (hx : Loc X.env.scope x := by first | exact .inl rfl | exact .inr rfl)
    (hf : X.fn x = true ∨ X.env.scope.names.lookup x = some .local := by first | exact .inl rfl | exact .inr rfl) : MG X xs (.Name x pos) (gN i) :=
  ⟨_, pg_name hN hi hx hf, fun σ H Q m p env d v env' E r z k => by
    cases z
    exact k _ (E.set hq r)⟩
theorem mgs_nil : MGs X xs [] gsNil := ⟨_, pgs_nil, fun σ H Q m p env d v env' E r z k => by
  cases d with
  | nil => cases z; exact ⟨reps_nil.mp r, k _ E⟩
  | cons _ _ => cases z⟩
theorem mgs_cons (h1 : MG X xs e g) (h2 : MGs X xs es gs) (hs : (assignEach (e :: es) X.env).map (·.2) = assign e X.env :: (assignEach es X.env).map (·.2) := by rfl) : MGs X xs (e :: es) (gsCons g gs) := by
  obtain ⟨t1, p1, q1⟩ := h1
  obtain ⟨t2, p2, q2⟩ := h2
  refine ⟨_, pgs_cons p1 p2 hs, fun σ H Q m p env d v env' E r z k => ?_⟩
  cases d with
  | nil => cases z
  | cons d ds =>
    obtain ⟨u, us, rfl, r1, r2⟩ := reps_cons.mp r
    simp only [gsCons, Option.bind_eq_some_iff] at z
    obtain ⟨e1, z1, z2⟩ := z
    exact ⟨u, us, rfl, q1 σ H _ m p env d u e1 E r1 z1 fun σ' E' => q2 σ' H Q m p e1 ds us env' E' r2 z2 k⟩
theorem mg_tup {k n : Nat} (hc : X.calm = true) (h : MGs X xs es gs) (hn : (assignEach es X.env).length = n := by rfl) (hst : (assignEach es X.env).findIdx? (·.1) = none := by rfl) : MG X xs (.Tuple es k pos) (gT n gs) := by
  obtain ⟨t1, p1, q1⟩ := h
  refine ⟨_, pg_tup hc p1 hn hst, fun σ H Q m p env d v env' E r z k => ?_⟩
  cases d with
  | tup ds =>
    obtain ⟨a, vs, rfl, h1, h2⟩ := rep_tup.mp r
    simp only [gT] at z
    by_cases y : ds.length = n
    · rw [if_pos y] at z
      exact ⟨a, vs, rfl, Fz.sqT h1, by rw [h2.length]; exact y, q1 σ H Q m p env ds vs env' E h2 z k⟩
    · rw [if_neg y] at z; cases z
  | _ => cases z
end

/-! ## assignments -/
def sSet (i : Nat) (c : EM) : SM := fun e st => (c e st).toS e fun d st1 => .nx (e.set i (some d)) st1
/-- any target without a store -/
def sAsg (g : D → En → Option En) (c : EM) : SM := fun e st => (c e st).toS e fun d st1 => match g d e with
  | some e1 => .nx e1 st1
  | none => .bad
/-- a, b = x, y stored from the right -/
def sPar (is : List Nat) (a : AM) : SM := fun e st => (a e st).toS e fun ds st1 => if ds.length = is.length then .nx ((is.zip ds).foldl (fun e p => e.set p.1 (some p.2)) e) st1 else .bad
section
variable {X : Cx} {W : WX} {xs : XSlot} {e : Expr} {c : EM} {pos px py pz pt pt2 : Pos} {g : D → En → Option En} {r : AM}
theorem ms_set (i : Nat) {x : Str} (hN : X.N.Nodup) (h : ME X W xs e c) (hq : ∀ q, xs ≠ some (i, q) := by intro q z; cases z) (hi : X.N[i]? = some x := by rfl) (hx : Loc X.env.scope x := by first | exact .inl rfl | exact .inr rfl)
    (hs : swapsWith e (some (.Name x px)) pos.line X.env = pure false := by rfl) (hf : X.fn x = true ∨ X.env.scope.names.lookup x = some .local := by first | exact .inl rfl | exact .inr rfl) :
    MS X W xs (.Assign [.Name x px] e pos) (sSet i c) :=
  PSi (ps_set hN hi hx h hs hf) fun Dn σ H ⟨m, p, env, sto, E, S, h⟩ => ⟨m, p, env, sto, E, S, h.andD E fun d st1 v m1 H1 e1 s1 r1 h1 => OkS.nowN h1 ((E.ext e1).set hq r1) s1⟩
theorem ms_asg {tg : Expr} (h : ME X W xs e c) (hg : MG X xs tg g) (hs : swapsWithSole [tg] e pos.line X.env = pure false := by rfl) (hw : swappedStores [tg] e X.env = pure none := by rfl)
    (h1 : (assignEach [tg] X.env).map (·.2) = [assign tg X.env] := by rfl) : MS X W xs (.Assign [tg] e pos) (sAsg g c) := by
  obtain ⟨t, p1, q1⟩ := hg
  refine PSi (ps_asg h p1 hs hw h1) fun Dn σ H ⟨m, p, env, sto, E, S, h⟩ => ⟨m, p, env, sto, E, S, h.andD E fun d st1 v m1 H1 e1 s1 r1 h1 => ?_⟩
  cases q : g d env with
  | none => simp only [q] at h1; exact h1.elim
  | some env' =>
    simp only [q] at h1
    exact q1 σ H1 _ m1 p env d v env' (E.ext e1) r1 q fun σ' E' => OkS.nowN h1 E' s1
theorem ms_par (i j : Nat) {x y : Str} {a b : Expr} {kt k2 : Nat} (hc : X.calm = true) (hN : X.N.Nodup) (ha : MA X W xs [a, b] r) (hqi : ∀ q, xs ≠ some (i, q) := by intro q z; cases z) (hqj : ∀ q, xs ≠ some (j, q) := by intro q z; cases z)
    (hi : X.N[i]? = some x := by rfl) (hj : X.N[j]? = some y := by rfl) (hij : i ≠ j := by decide)
    (hx : X.env.scope.names.lookup x = some .local := by rfl) (hy : X.env.scope.names.lookup y = some .local := by rfl)
    (hw : swappedStores [.Tuple [.Name x px, .Name y py] kt pt] (.Tuple [a, b] k2 pt2) X.env = pure (some [x, y]) := by rfl)
    (hs : swapsWithSole [.Tuple [.Name x px, .Name y py] kt pt] (.Tuple [a, b] k2 pt2) pos.line X.env = pure false := by rfl) :
    MS X W xs (.Assign [.Tuple [.Name x px, .Name y py] kt pt] (.Tuple [a, b] k2 pt2) pos) (sPar [i, j] r) :=
  PSi (ps_par hc hN hi hj hij hx hy ha hw hs) fun Dn σ H ⟨m, p, env, sto, E, S, h⟩ => ⟨m, p, env, sto, E, S, h.andA E fun ds st1 vs m1 H1 e1 s1 r1 h1 => by
    match ds, h1 with
    | [], h1 => exact h1.elim
    | [_], h1 => exact h1.elim
    | [d, f], h1 =>
      obtain ⟨v, ws, rfl, rv, r2⟩ := reps_cons.mp r1
      obtain ⟨u, us, rfl, ru, r3⟩ := reps_cons.mp r2
      rw [reps_nil.mp r3]
      exact ⟨v, u, rfl, OkS.nowN h1 (((E.ext e1).set hqi rv).set hqj ru) s1⟩
    | _ :: _ :: _ :: _, h1 => rw [if_neg (by simp)] at h1; exact h1.elim⟩
theorem ms_par3 (i j l : Nat) {x y z : Str} {a b d : Expr} {kt k2 : Nat} (hc : X.calm = true) (hN : X.N.Nodup) (ha : MA X W xs [a, b, d] r) (hqi : ∀ q, xs ≠ some (i, q) := by intro q z; cases z) (hqj : ∀ q, xs ≠ some (j, q) := by intro q z; cases z) (hql : ∀ q, xs ≠ some (l, q) := by intro q z; cases z)
    (hi : X.N[i]? = some x := by rfl) (hj : X.N[j]? = some y := by rfl) (hl : X.N[l]? = some z := by rfl) (hij : i ≠ j := by decide) (hil : i ≠ l := by decide) (hjl : j ≠ l := by decide)
    (hx : X.env.scope.names.lookup x = some .local := by rfl) (hy : X.env.scope.names.lookup y = some .local := by rfl) (hz : X.env.scope.names.lookup z = some .local := by rfl)
    (hw : swappedStores [.Tuple [.Name x px, .Name y py, .Name z pz] kt pt] (.Tuple [a, b, d] k2 pt2) X.env = pure (some [x, y, z]) := by rfl)
    (hs : swapsWithSole [.Tuple [.Name x px, .Name y py, .Name z pz] kt pt] (.Tuple [a, b, d] k2 pt2) pos.line X.env = pure false := by rfl) :
    MS X W xs (.Assign [.Tuple [.Name x px, .Name y py, .Name z pz] kt pt] (.Tuple [a, b, d] k2 pt2) pos) (sPar [i, j, l] r) :=
  PSi (ps_par3 hc hN hi hj hl hij hil hjl hx hy hz ha hw hs) fun Dn σ H ⟨m, p, env, sto, E, S, h⟩ => ⟨m, p, env, sto, E, S, h.andA E fun ds st1 vs m1 H1 e1 s1 r1 h1 => by
    match ds, h1 with
    | [], h1 => exact h1.elim
    | [_], h1 => exact h1.elim
    | [_, _], h1 => exact h1.elim
    | [d, f, g], h1 =>
      obtain ⟨v, ws, rfl, rv, r2⟩ := reps_cons.mp r1
      obtain ⟨u, us, rfl, ru, r3⟩ := reps_cons.mp r2
      obtain ⟨t, ts, rfl, rt, r4⟩ := reps_cons.mp r3
      rw [reps_nil.mp r4]
      exact ⟨v, u, t, rfl, OkS.nowN h1 ((((E.ext e1).set hqi rv).set hqj ru).set hql rt) s1⟩
    | _ :: _ :: _ :: _ :: _, h1 => rw [if_neg (by simp)] at h1; exact h1.elim⟩
end

/-! ## while -/
def wTurn (c : TM) (b : SM) (k : En → Sto → Option SO) (e : En) (st : Sto) : Option SO := match c e st with
  | .ok true st1 => match b e st1 with
    | .nx e2 st2 => k e2 st2
    | .ct e2 st2 => k e2 st2
    | .bk e2 st2 => some (.nx e2 st2)
    | o => some o
  | .ok false st1 => some (.nx e st1)
  | .exc x v st1 => some (.exc x v e st1)
  | .bad => some .bad
def wRun (c : TM) (b : SM) : Nat → En → Sto → Option SO
  | 0 => fun _ _ => none
  | n + 1 => wTurn c b (wRun c b n)
theorem wRun_up {c : TM} {b : SM} : ∀ {n : Nat} {e : En} {st : Sto} {o : SO}, wRun c b n e st = some o → wRun c b (n + 1) e st = some o
  | 0, _, _, _, h => by cases h
  | n + 1, e, st, o, h => by
    rw [wRun] at h ⊢
    unfold wTurn at h ⊢
    cases q : c e st with
    | ok k st1 =>
      rw [q] at h
      cases k with
      | true =>
        simp only at h ⊢
        cases q2 : b e st1 with
        | nx e2 st2 => rw [q2] at h; exact wRun_up h
        | ct e2 st2 => rw [q2] at h; exact wRun_up h
        | bk _ _ => rw [q2] at h; exact h
        | rt _ _ => rw [q2] at h; exact h
        | exc _ _ _ _ => rw [q2] at h; exact h
        | bad => rw [q2] at h; exact h
      | false => exact h
    | exc _ _ _ => rw [q] at h; exact h
    | bad => rw [q] at h; exact h
theorem wRun_le {c : TM} {b : SM} {n k : Nat} {e : En} {st : Sto} {o : SO} (h : wRun c b n e st = some o) (hk : n ≤ k) : wRun c b k e st = some o := by
  induction hk with
  | refl => exact h
  | step _ ih => exact wRun_up ih
theorem wRun_det {c : TM} {b : SM} {n k : Nat} {e : En} {st : Sto} {o o' : SO} (h : wRun c b n e st = some o) (h' : wRun c b k e st = some o') : o = o' := by
  have h1 := wRun_le h (Nat.le_max_left n k)
  have h2 := wRun_le h' (Nat.le_max_right n k)
  rw [h1] at h2
  exact Option.some.inj h2
open Classical in
noncomputable def sWhile (c : TM) (b : SM) : SM := fun e st => if h : ∃ o n, wRun c b n e st = some o then h.choose else .bad
theorem sWhile_of {c : TM} {b : SM} {n : Nat} {e : En} {st : Sto} {o : SO} (h : wRun c b n e st = some o) : sWhile c b e st = o := by
  have ex : ∃ o n, wRun c b n e st = some o := ⟨o, n, h⟩
  unfold sWhile
  rw [dif_pos ex]
  obtain ⟨k, hk⟩ := ex.choose_spec
  exact wRun_det hk h
/-- one turn -/
theorem sWhile_eq (c : TM) (b : SM) (e : En) (st : Sto) : sWhile c b e st = match c e st with
    | .ok true st1 => (match b e st1 with
      | .nx e2 st2 => sWhile c b e2 st2
      | .ct e2 st2 => sWhile c b e2 st2
      | .bk e2 st2 => .nx e2 st2
      | o => o)
    | .ok false st1 => .nx e st1
    | .exc x v st1 => .exc x v e st1
    | .bad => .bad := by
  have go : ∀ e2 st2, wRun c b 1 e st = none → (∀ n, wRun c b (n + 1) e st = wRun c b n e2 st2) → sWhile c b e st = sWhile c b e2 st2 := by
    intro e2 st2 _ h
    by_cases ex : ∃ o n, wRun c b n e2 st2 = some o
    · obtain ⟨o, n, hn⟩ := ex
      rw [sWhile_of hn, sWhile_of (n := n + 1) ((h n).trans hn)]
    · have ex2 : ¬ ∃ o n, wRun c b n e st = some o := by
        rintro ⟨o, n, hn⟩
        exact ex ⟨o, n, (h n).symm.trans (wRun_up hn)⟩
      unfold sWhile
      rw [dif_neg ex, dif_neg ex2]
  cases q : c e st with
  | ok k st1 =>
    cases k with
    | true =>
      simp only
      cases q2 : b e st1 with
      | nx e2 st2 => exact go e2 st2 (by rw [wRun, wTurn, q]; simp only [q2]; rfl) fun n => by rw [wRun, wTurn, q]; simp only [q2]
      | ct e2 st2 => exact go e2 st2 (by rw [wRun, wTurn, q]; simp only [q2]; rfl) fun n => by rw [wRun, wTurn, q]; simp only [q2]
      | bk _ _ => exact sWhile_of (n := 1) (by rw [wRun, wTurn, q]; simp only [q2])
      | rt _ _ => exact sWhile_of (n := 1) (by rw [wRun, wTurn, q]; simp only [q2])
      | exc _ _ _ _ => exact sWhile_of (n := 1) (by rw [wRun, wTurn, q]; simp only [q2])
      | bad => exact sWhile_of (n := 1) (by rw [wRun, wTurn, q]; simp only [q2])
    | false => exact sWhile_of (n := 1) (by rw [wRun, wTurn, q])
  | exc _ _ _ => exact sWhile_of (n := 1) (by rw [wRun, wTurn, q])
  | bad => exact sWhile_of (n := 1) (by rw [wRun, wTurn, q])
section
variable {X : Cx} {W : WX} {xs : XSlot} {e : Expr} {body : List Stmt} {c : TM} {b : SM} {pos : Pos}
theorem ms_while (hp : PassesOwn (model X.prog X.w) X.A X.env X.xe) (hc : MT X W xs e c) (hb : MSs X W xs body b) : MS X W xs (.While e body [] pos) (sWhile c b) :=
  PSi (ps_while hp hc hb) fun Dn σ H ⟨m, p, env, sto, E, S, h⟩ => by
    by_cases ex : ∃ o n, wRun c b n env sto = some o
    · obtain ⟨o, n, hn⟩ := ex
      rw [sWhile_of hn] at h
      refine ⟨fun k σ' H' => ∃ m p env sto o, EnvR (gn X) m p H' xs env σ' ∧ SR (gn X) m p H' sto ∧ wRun c b k env sto = some o ∧ OkS (gn X) W xs m p H' o Dn, ⟨n, m, p, env, sto, o, E, S, hn, h⟩, ?_⟩
      rintro k σ1 H1 ⟨m1, p1, env1, st1, o1, E1, S1, hk, h1⟩
      cases k with
      | zero => cases hk
      | succ k =>
        rw [wRun] at hk
        unfold wTurn at hk
        refine ⟨m1, p1, env1, st1, E1, S1, ?_⟩
        cases q : c env1 st1 with
        | ok t st2 =>
          rw [q] at hk
          intro m2 H2 e2 s2
          cases t with
          | true =>
            refine ⟨_, fun σ' H' hN => ⟨k, Nat.lt_succ_self k, hN⟩, m2, p1, env1, st2, E1.ext e2, s2, ?_⟩
            simp only at hk
            cases q2 : b env1 st2 with
            | nx e3 st3 => rw [q2] at hk; exact fun σ' m' H' x E' S' => ⟨m', p1, e3, st3, o1, E', S', hk, OkS.ext h1 (e2.trans x)⟩
            | ct e3 st3 => rw [q2] at hk; exact fun σ' m' H' x E' S' => ⟨m', p1, e3, st3, o1, E', S', hk, OkS.ext h1 (e2.trans x)⟩
            | bk e3 st3 => rw [q2] at hk; cases hk; exact fun σ' m' H' x E' S' => h1 σ' m' H' (e2.trans x) E' S'
            | rt _ _ => rw [q2] at hk; cases hk; exact OkS.ext h1 e2
            | exc _ _ _ _ => rw [q2] at hk; cases hk; exact OkS.ext h1 e2
            | bad => rw [q2] at hk; cases hk; exact h1
          | false => cases hk; exact h1 σ1 m2 H2 e2 (E1.ext e2) s2
        | exc x v st2 => rw [q] at hk; cases hk; exact fun m' H' cls dx e s r => h1 σ1 m' H' cls dx e (E1.ext e) s r
        | bad => rw [q] at hk; cases hk; exact h1
    · unfold sWhile at h
      rw [dif_neg ex] at h
      exact h.elim
end

/-! ## what is walked -/
abbrev Grd := Option (Nat × List D)
def grdOk (g : Grd) (st : Sto) : Prop := match g with
  | none => True
  | some (n, xs) => st[n]? = some (.lst xs)
abbrev IM := En → Sto → Out (List D × Grd)
structure ItOk (G : Gn) (m0 p : List Addr) (H0 : Hp) (J : It) (ds : List D) (g : Grd) : Prop where
  all : ∀ (i : Nat) (m1 p1 : List Addr) (H1 : Hp) (st1 : Sto), (∀ d v, Rep G m0 p H0 d v → Rep G m1 p1 H1 d v) → SR G m1 p1 H1 st1 → grdOk g st1 →
    (ds.length ≤ i → J.stop i H1) ∧ ∀ d, ds[i]? = some d → J.go i H1 ∧ ∀ x H2, J.yld i H1 x H2 → Ext m1 H1 m1 H2 ∧ SR G m1 p1 H2 st1 ∧ Rep G m1 p1 H2 d x
def OkI (G : Gn) (W : WX) (m p : List Addr) (H : Hp) (σ : St) (o : Out (List D × Grd)) (R : It → Hp → Prop) : Prop := match o with
  | .ok (ds, g) st' => ∀ J m' H', Ext m H m' H' → SR G m' p H' st' → grdOk g st' → ItOk G m' p H' J ds g → R J H'
  | .exc x at_ st' => ∀ m' H' cls dx, Ext m H m' H' → SR G m' p H' st' → ExcR G m' p H' x at_ cls dx → W cls dx σ H'
  | .bad => False
def MI (X : Cx) (W : WX) (xs : XSlot) (tg iter : Expr) (c : IM) : Prop := ∃ wi, PI X tg iter wi ∧ ∀ σ H R m p env st, EnvR (gn X) m p H xs env σ → SR (gn X) m p H st → OkI (gn X) W m p H σ (c env st) R → wi σ H R
theorem OkI.ext {G : Gn} {W : WX} {m m1 p : List Addr} {H H1 : Hp} {σ : St} {o : Out (List D × Grd)} {R : It → Hp → Prop} (h : OkI G W m p H σ o R) (e : Ext m H m1 H1) : OkI G W m1 p H1 σ o R := by
  cases o with
  | ok d st => exact fun J m' H' e' => h J m' H' (e.trans e')
  | exc x a st => exact fun m' H' c d e' => h m' H' c d (e.trans e')
  | bad => exact h
theorem OkI.andD {G : Gn} {W : WX} {m p : List Addr} {H : Hp} {σ : St} {o : Out D} {k : D → Sto → Out (List D × Grd)} {R : It → Hp → Prop} {P : VK} (h : OkI G W m p H σ (o.bind k) R)
    (hp : ∀ d st1 v m1 H1, Ext m H m1 H1 → SR G m1 p H1 st1 → Rep G m1 p H1 d v → OkI G W m1 p H1 σ (k d st1) R → P v H1) : OkD G W m p H σ o P := by
  cases o with
  | ok d st => exact fun v m1 H1 e s r => hp d st v m1 H1 e s r (OkI.ext h e)
  | exc x a st => exact h
  | bad => exact h
theorem OkI.andA {G : Gn} {W : WX} {m p : List Addr} {H : Hp} {σ : St} {o : Out (List D)} {k : List D → Sto → Out (List D × Grd)} {R : It → Hp → Prop} {P : List V → Hp → Prop} (h : OkI G W m p H σ (o.bind k) R)
    (hp : ∀ d st1 v m1 H1, Ext m H m1 H1 → SR G m1 p H1 st1 → Reps G m1 p H1 d v → OkI G W m1 p H1 σ (k d st1) R → P v H1) : OkA G W m p H σ o P := by
  cases o with
  | ok d st => exact fun v m1 H1 e s r => hp d st v m1 H1 e s r (OkI.ext h e)
  | exc x a st => exact h
  | bad => exact h
/-- what an object is walked as -/
def walkD (d : D) (st : Sto) : Out (List D × Grd) := match d with
  | .tup xs => .ok (xs, none) st
  | .fl xs => .ok (xs, none) st
  | .rl xs => .ok (xs, none) st
  | .ref n => match st[n]? with
    | some (.lst xs) => .ok (xs, some (n, xs)) st
    | _ => .bad
  | _ => .bad
def iSeq (c : EM) : IM := fun env st => (c env st).bind walkD
section
variable {G : Gn} {m p : List Addr} {H : Hp} {a : Addr} {vs : List V} {ds : List D}
theorem ItOk.list {g : Grd} (h : ∀ m1 p1 H1 st1, (∀ d v, Rep G m p H d v → Rep G m1 p1 H1 d v) → SR G m1 p1 H1 st1 → grdOk g st1 → ∃ ws, SqL G.K H1 a ws ∧ Reps G m1 p1 H1 ds ws) : ItOk G m p H (Itl G.K a) ds g := by
  refine ⟨fun i m1 p1 H1 st1 e s z => ?_⟩
  obtain ⟨ws, h1, h2⟩ := h m1 p1 H1 st1 e s z
  refine ⟨fun hi => ⟨ws, h1, by rw [h2.length]; exact hi⟩, fun d hd => ?_⟩
  obtain ⟨v, h3, h4⟩ := h2.get hd
  refine ⟨⟨ws, v, h1, h3⟩, fun x H2 y => ?_⟩
  obtain ⟨rfl, y⟩ := y
  have y2 := y ws h1
  rw [h3] at y2; cases y2
  exact ⟨Ext.refl, s, h4⟩
theorem ItOk.tup {g : Grd} (h : ∀ m1 p1 H1, (∀ d v, Rep G m p H d v → Rep G m1 p1 H1 d v) → ∃ ws, SqT G.K H1 a ws ∧ Reps G m1 p1 H1 ds ws) : ItOk G m p H (Itt G.K a) ds g := by
  refine ⟨fun i m1 p1 H1 st1 e s z => ?_⟩
  obtain ⟨ws, h1, h2⟩ := h m1 p1 H1 e
  refine ⟨fun hi => ⟨ws, h1, by rw [h2.length]; exact hi⟩, fun d hd => ?_⟩
  obtain ⟨v, h3, h4⟩ := h2.get hd
  refine ⟨⟨ws, v, h1, h3⟩, fun x H2 y => ?_⟩
  obtain ⟨rfl, y⟩ := y
  have y2 := y ws h1
  rw [h3] at y2; cases y2
  exact ⟨Ext.refl, s, h4⟩
end
/-- what the walked thing is later -/
theorem walk_later {G : Gn} {m p m1 p1 : List Addr} {H H1 : Hp} {a : Addr} {d : D} (r : Rep G m p H d (.ref a)) (k : ∀ d v, Rep G m p H d v → Rep G m1 p1 H1 d v) : Rep G m1 p1 H1 d (.ref a) := k d _ r
/-- a thing that may be walked, by values: the list or tuple with the facts that last -/
theorem walk_rep {G : Gn} {W : WX} {m p : List Addr} {H : Hp} {σ : St} {st : Sto} {d : D} {v : V} {R : It → Hp → Prop} (S : SR G m p H st) (r : Rep G m p H d v) (h : OkI G W m p H σ (walkD d st) R) :
    (∃ a, v = .ref a ∧ (∃ xs, SqL G.K H a xs) ∧ R (Itl G.K a) H) ∨ (∃ a, v = .ref a ∧ (∃ xs, SqT G.K H a xs) ∧ R (Itt G.K a) H) := by
  cases d with
  | tup ds =>
    obtain ⟨a, vs, rfl, h1, h2⟩ := rep_tup.mp r
    refine .inr ⟨a, rfl, ⟨vs, Fz.sqT h1⟩, h _ m H Ext.refl S trivial (ItOk.tup fun m1 p1 H1 k => ?_)⟩
    obtain ⟨a', ws, e, g1, g2⟩ := rep_tup.mp (k _ _ r)
    cases e
    exact ⟨ws, Fz.sqT g1, g2⟩
  | fl ds =>
    obtain ⟨a, vs, rfl, h1, h2⟩ := rep_fl.mp r
    refine .inl ⟨a, rfl, ⟨vs, SqL.of h1.1⟩, h _ m H Ext.refl S trivial (ItOk.list fun m1 p1 H1 st1 k _ _ => ?_)⟩
    obtain ⟨a', ws, e, g1, g2⟩ := rep_fl.mp (k _ _ r)
    cases e
    exact ⟨ws, SqL.of g1.1, g2⟩
  | rl ds =>
    obtain ⟨a, vs, rfl, h1, h2⟩ := rep_rl.mp r
    refine .inl ⟨a, rfl, ⟨vs, Fz.sqL h1⟩, h _ m H Ext.refl S trivial (ItOk.list fun m1 p1 H1 st1 k _ _ => ?_)⟩
    obtain ⟨a', ws, e, g1, g2⟩ := rep_rl.mp (k _ _ r)
    cases e
    exact ⟨ws, Fz.sqL g1, g2⟩
  | ref n =>
    obtain ⟨a, rfl, h1⟩ := rep_ref.mp r
    obtain ⟨o, ho, hr⟩ := S.get h1
    simp only [walkD, ho] at h
    cases o with
    | lst ys =>
      obtain ⟨vs, h2, h3⟩ := hr
      refine .inl ⟨a, rfl, ⟨vs, SqL.of h2⟩, h _ m H Ext.refl S ho (ItOk.list fun m1 p1 H1 st1 k s z => ?_)⟩
      obtain ⟨a', e, g0⟩ := rep_ref.mp (k _ _ r)
      cases e
      obtain ⟨ws, g1, g2⟩ := s.ob n a _ g0 z
      exact ⟨ws, SqL.of g1, g2⟩
    | dk _ => exact h.elim
    | dt _ => exact h.elim
    | ins _ _ => exact h.elim
  | _ => exact h.elim
section
variable {X : Cx} {W : WX} {xs : XSlot} {tg iter e e2 : Expr} {c c2 : EM} {r : AM} {pos p' tpos : Pos}
theorem PIor {wi wj : TI} (h1 : PI X tg iter wi) (h2 : PI X tg iter wj) : PI X tg iter (fun σ H R => wi σ H R ∨ wj σ H R) :=
  ⟨fun pins s σ H R I h => h.elim (h1.run pins s σ H R I) (h2.run pins s σ H R I)⟩
/-- an evaluated thing, one way or the other -/
theorem rdD_or {t : TE} {A B : VK} {σ : St} {H : Hp} : t σ H (fun v H' => A v H' ∨ B v H') → t σ H (fun v H' => A v H' ∨ B v H') := id
theorem pi_both {l : Expr} {tl : TE} (hl : PE X l tl) : PI X tg l (fun σ H R => tl σ H fun x H1 => (∃ a, x = .ref a ∧ (∃ xs, SqL X.K H1 a xs) ∧ R (Itl X.K a) H1) ∨ (∃ a, x = .ref a ∧ (∃ xs, SqT X.K H1 a xs) ∧ R (Itt X.K a) H1)) := by
  refine ⟨fun pins s σ H R I h => ?_⟩
  refine thn (hl.run pins s σ H _ I h) fun v s1 ⟨x, H1, I1, r1, q1⟩ => ?_
  have now : ∀ {t : TE} (P : ∀ Q : VK, Q x H1 → t σ H1 Q) (W1 : PE X l t), True := fun _ _ => trivial
  rcases q1 with ⟨a, rfl, ⟨ys, hq⟩, q⟩ | ⟨a, rfl, ⟨ys, hq⟩, q⟩
  · cases r1
    obtain ⟨its, rv, pl, hz⟩ := I1.list hq
    refine wpAny_pyIter_list pl.isList ?_
    refine ⟨s1.heap.objs.size, [s1.heap.objs.size], _, _, H1, rfl, I1.kept (t' := s1.toks) fun b o w => Heap.get?_push_of_some _ w, turn_list a _, ⟨_, Heap.get?_push_size _ rfl, rfl, rfl⟩, fun b hb => ?_, q⟩
    rw [List.mem_singleton.mp hb]
    exact I1.fpOk (Nat.le_refl _) (I1.hok.fresh (Nat.le_refl _))
  · cases r1
    obtain ⟨its, rv, pl, hz⟩ := I1.tuple hq
    refine wpAny_pyIter_tuple (show s1.heap.IsTuple a its.toArray from pl) ?_
    refine ⟨s1.heap.objs.size, [s1.heap.objs.size], _, _, H1, rfl, I1.kept (t' := s1.toks) fun b o w => Heap.get?_push_of_some _ w, turn_tuple a _, ⟨_, Heap.get?_push_size _ rfl, rfl, rfl⟩, fun b hb => ?_, q⟩
    rw [List.mem_singleton.mp hb]
    exact I1.fpOk (Nat.le_refl _) (I1.hok.fresh (Nat.le_refl _))
theorem mi_seq (h : ME X W xs e c) : MI X W xs tg e (iSeq c) :=
  ⟨_, pi_both h, fun σ H R m p env st E S hR => ⟨m, p, env, st, E, S, hR.andD fun d st1 v m1 H1 e1 s1 r1 h1 => walk_rep s1 r1 h1⟩⟩
/-- range -/
def rangeD (lo : Int) (n : Nat) : List D := (List.range n).map fun i => .int (lo + (i : Nat))
def iRg1 (c : EM) : IM := fun env st => (c env st).bind fun d st1 => match d with
  | .int j => if -(2 ^ 62) ≤ j ∧ j < 2 ^ 62 then .ok (rangeD 0 j.toNat, none) st1 else .bad
  | _ => .bad
def iRg2 (c c2 : EM) : IM := fun env st => (c env st).bind fun d st1 => (c2 env st1).bind fun d2 st2 => match d, d2 with
  | .int i, .int j => if -(2 ^ 62) ≤ i ∧ i < 2 ^ 62 ∧ -(2 ^ 62) ≤ j ∧ j < 2 ^ 62 then .ok (rangeD i (j - i).toNat, none) st2 else .bad
  | _, _ => .bad
theorem ItOk.range {G : Gn} {m p : List Addr} {H : Hp} {lo : Int} {n : Nat} {g : Grd} : ItOk G m p H (Itr lo n) (rangeD lo n) g := by
  refine ⟨fun i m1 p1 H1 st1 e s z => ⟨fun hi => ?_, fun d hd => ?_⟩⟩
  · unfold rangeD at hi
    rw [List.length_map, List.length_range] at hi
    exact hi
  · unfold rangeD at hd
    rw [List.getElem?_map] at hd
    have hlt : i < n := by
      have := (List.getElem?_eq_some_iff.mp (Option.map_eq_some_iff.mp hd).choose_spec.1).1
      rwa [List.length_range] at this
    rw [List.getElem?_range hlt] at hd
    cases hd
    refine ⟨hlt, fun x H2 y => ?_⟩
    obtain ⟨rfl, rfl⟩ := y
    exact ⟨Ext.refl, s, rep_int.mpr rfl⟩
theorem mi_range1 (h : ME X W xs e c) (hg : Gl X "range") (hm : X.mg "range" = none) (hs : starEach [e] X.env = [(false, eval e X.env)] := by rfl) : MI X W xs tg (.Call (.Name "range" p') [e] [] pos) (iRg1 c) :=
  ⟨_, pi_range1 hg hm (pa_cons h pa_nil hs) hs, fun σ H R m p env st E S hR => ⟨m, p, env, st, E, S, hR.andD fun d st1 v m1 H1 e1 s1 r1 h1 => by
    cases d with
    | int j =>
      by_cases z : -(2 ^ 62) ≤ j ∧ j < 2 ^ 62
      · simp only [if_pos z] at h1
        exact ⟨j, by rw [rep_int.mp r1], z.1, z.2, h1 _ m1 H1 Ext.refl s1 trivial ItOk.range⟩
      · simp only [if_neg z] at h1; exact h1.elim
    | _ => exact h1.elim⟩⟩
theorem mi_range2 (h : ME X W xs e c) (h2 : ME X W xs e2 c2) (hg : Gl X "range") (hm : X.mg "range" = none) (hs : starEach [e, e2] X.env = [(false, eval e X.env), (false, eval e2 X.env)] := by rfl) (hs2 : starEach [e2] X.env = [(false, eval e2 X.env)] := by rfl) :
    MI X W xs tg (.Call (.Name "range" p') [e, e2] [] pos) (iRg2 c c2) :=
  ⟨_, pi_range2 hg hm (pa_cons h (pa_cons h2 pa_nil hs2) (by rw [hs, hs2])) hs hs2, fun σ H R m p env st E S hR => ⟨m, p, env, st, E, S, hR.andD fun d st1 v m1 H1 e1 s1 r1 h1 => ⟨m1, p, env, st1, E.ext e1, s1, h1.andD fun d2 st2 u m2 H2 e2 s2 r2 h2 => by
    cases d with
    | int i =>
      cases d2 with
      | int j =>
        by_cases z : -(2 ^ 62) ≤ i ∧ i < 2 ^ 62 ∧ -(2 ^ 62) ≤ j ∧ j < 2 ^ 62
        · simp only [if_pos z] at h2
          exact ⟨i, j, by rw [rep_int.mp r1, rep_int.mp r2], z, h2 _ m2 H2 Ext.refl s2 trivial ItOk.range⟩
        · simp only [if_neg z] at h2; exact h2.elim
      | _ => exact h2.elim
    | _ => exact h2.elim⟩⟩⟩
end
end Mi

namespace Mi
open PySem L2

theorem Ext.mutP {m m1 : List Addr} {H H1 : Hp} {q : Addr} {o : HO} (e : Ext m H m1 H1) (h : H q = none) : Ext m H m1 (upd H1 q o) :=
  ⟨e.pre, fun a u ha hm => by rw [upd_ne (ne_of_none ha h)]; exact e.keep a u ha hm, fun a hm ha z => by
    by_cases hq : a = q
    · rw [hq] at ha; exact ha h
    · rw [upd_ne hq] at z; exact e.live a hm ha z⟩

/-! ## for -/
open Classical in
noncomputable def fRun (g : D → En → Option En) (b : SM) (gd : Grd) : List D → En → Sto → SO
  | [], e, st => if grdOk gd st then .nx e st else .bad
  | d :: ds, e, st => if grdOk gd st then match g d e with
      | none => .bad
      | some e1 => match b e1 st with
        | .nx e2 st2 => fRun g b gd ds e2 st2
        | .ct e2 st2 => fRun g b gd ds e2 st2
        | .bk e2 st2 => .nx e2 st2
        | o => o
    else .bad
noncomputable def sFor (c : IM) (g : D → En → Option En) (b : SM) : SM := fun e st => (c e st).toS e fun x st1 => fRun g b x.2 x.1 e st1
section
variable {X : Cx} {W : WX} {xs : XSlot} {tg iter : Expr} {body : List Stmt} {c : IM} {g : D → En → Option En} {b : SM} {pos : Pos}
theorem ms_for (hp : PassesOwn (model X.prog X.w) X.A X.env X.xe) (hc : X.calm = true) (hi : MI X W xs tg iter c) (hg : MG X xs tg g) (hb : MSs X W xs body b) (hs : ∀ x, foldedSetIterable iter X.env x = pure x := by intro _; rfl) : MS X W xs (.For tg iter body [] pos) (sFor c g b) := by
  obtain ⟨wi, p1, q1⟩ := hi
  obtain ⟨t, p2, q2⟩ := hg
  refine PSi (ps_for hp hc p1 p2 hb hs) fun Dn σ H ⟨m, p, env, sto, E, S, h⟩ => q1 σ H _ m p env sto E S ?_
  unfold sFor at h
  cases q : c env sto with
  | bad => rw [q] at h; exact h
  | exc x v st1 => rw [q] at h; exact fun m' H' cls dx e s r => h σ m' H' cls dx e (E.ext e) s r
  | ok x st1 =>
    obtain ⟨ds, gd⟩ := x
    rw [q] at h
    intro J m0 H0 e0 s0 g0 ok
    refine ⟨fun i n σ' H2 => ∃ m2 e2 st2, Ext m0 H0 m2 H2 ∧ EnvR (gn X) m2 p H2 xs e2 σ' ∧ SR (gn X) m2 p H2 st2 ∧ OkS (gn X) W xs m2 p H2 (fRun g b gd (ds.drop i) e2 st2) Dn ∧ n = ds.length - i,
      ⟨ds.length - 0, m0, env, st1, Ext.refl, E.ext e0, s0, OkS.ext h e0, rfl⟩, ?_⟩
    rintro i n σ' H2 ⟨m2, e2, st2, x2, E2, S2, h2, rfl⟩
    cases hd : ds.drop i with
    | nil =>
      rw [hd] at h2
      by_cases gg : grdOk gd st2
      · rw [fRun, if_pos gg] at h2
        refine .inl ⟨(ok.all i m2 p H2 st2 (Rep.ext x2) S2 gg).1 ?_, OkS.nowN h2 E2 S2⟩
        have := congrArg List.length hd
        rw [List.length_drop, List.length_nil] at this
        omega
      · rw [fRun, if_neg gg] at h2; exact h2.elim
    | cons d rest =>
      have hlt : i < ds.length := by
        have := congrArg List.length hd
        rw [List.length_drop, List.length_cons] at this
        omega
      have hdi : ds[i]? = some d := by
        have h3 : (ds.drop i)[0]? = some d := by rw [hd]; rfl
        rw [List.getElem?_drop] at h3
        exact h3
      have hrest : rest = ds.drop (i + 1) := by
        have h3 : (ds.drop i).drop 1 = rest := by rw [hd]; rfl
        rw [List.drop_drop] at h3
        exact h3.symm
      rw [hd] at h2
      by_cases gg : grdOk gd st2
      · rw [fRun, if_pos gg] at h2
        obtain ⟨go, hy⟩ := (ok.all i m2 p H2 st2 (Rep.ext x2) S2 gg).2 d hdi
        cases hgd : g d e2 with
        | none => simp only [hgd] at h2; exact h2.elim
        | some e3 =>
          simp only [hgd] at h2
          refine .inr ⟨go, _, fun σ' H' hN => ⟨ds.length - (i + 1), by omega, hN⟩, fun x H3 hx => ?_⟩
          obtain ⟨y1, y2, y3⟩ := hy x H3 hx
          refine q2 σ' H3 _ m2 p e2 d x e3 (E2.ext y1) y3 hgd fun σ3 E3 => ⟨m2, p, e3, st2, E3, y2, ?_⟩
          have h4 := OkS.ext h2 y1
          rw [hrest] at h4
          cases hbq : b e3 st2 with
          | nx e4 st4 => rw [hbq] at h4; exact fun σ4 m4 H4 x4 E4 S4 => ⟨m4, e4, st4, x2.trans (y1.trans x4), E4, S4, OkS.ext h4 x4, rfl⟩
          | ct e4 st4 => rw [hbq] at h4; exact fun σ4 m4 H4 x4 E4 S4 => ⟨m4, e4, st4, x2.trans (y1.trans x4), E4, S4, OkS.ext h4 x4, rfl⟩
          | bk e4 st4 => rw [hbq] at h4; exact fun σ4 m4 H4 x4 E4 S4 => h4 σ4 m4 H4 x4 E4 S4
          | rt _ _ => rw [hbq] at h4; exact h4
          | exc _ _ _ _ => rw [hbq] at h4; exact h4
          | bad => rw [hbq] at h4; exact h4
      · rw [fRun, if_neg gg] at h2; exact h2.elim
end

/-! ## comprehensions -/
/-- nothing is let out -/
abbrev wN : WX := fun _ _ _ _ => False
theorem takesN {X : Cx} : Takes X wN := fun u s' ⟨_, _, _, _, _, _, _, _, _, _, _, _, _, _, _, _, w⟩ => w.elim
def wipeE (e : En) : List Nat → En
  | [] => e
  | v :: vs => (wipeE e vs).set v none
theorem EnvR.wipe {G : Gn} {m p : List Addr} {H : Hp} {env : En} {σ : St} (h : EnvR G m p H none env σ) : ∀ vs, EnvR G m p H none (wipeE env vs) (L2.wipe σ vs)
  | [] => h
  | v :: vs => (EnvR.wipe h vs).unset
theorem wipe_get {σ : St} : ∀ {vs : List Nat} {j : Nat}, j ∉ vs → (L2.wipe σ vs)[j]? = σ[j]?
  | [], _, _ => rfl
  | v :: vs, j, h => by
    have h1 : v ≠ j := fun z => h (by rw [z]; exact List.mem_cons_self)
    have h2 : j ∉ vs := fun z => h (List.mem_cons_of_mem _ z)
    unfold L2.wipe
    rw [List.getElem?_set_ne h1, wipe_get h2]
theorem wipe_mem {σ : St} : ∀ {vs : List Nat} {j : Nat}, j ∈ vs → j < σ.length → (L2.wipe σ vs)[j]? = some none
  | v :: vs, j, h, hl => by
    unfold L2.wipe
    by_cases e : v = j
    · rw [e, List.getElem?_set_self (by rw [L2.wipe_length]; exact hl)]
    · rw [List.getElem?_set_ne e]
      rcases List.mem_cons.mp h with z | z
      · exact absurd z.symm e
      · exact wipe_mem z hl
theorem wipe_eq {σ τ : St} {vs : List Nat} (hl : σ.length = τ.length) (h : ∀ j, j ∉ vs → σ[j]? = τ[j]?) : L2.wipe σ vs = L2.wipe τ vs := by
  apply List.ext_getElem?
  intro j
  by_cases hj : j ∈ vs
  · by_cases hlt : j < σ.length
    · rw [wipe_mem hj hlt, wipe_mem hj (by rw [← hl]; exact hlt)]
    · rw [List.getElem?_eq_none (by rw [L2.wipe_length]; omega), List.getElem?_eq_none (by rw [L2.wipe_length]; omega)]
  · rw [wipe_get hj, wipe_get hj]; exact h j hj
theorem wipe_idem {σ : St} {vs : List Nat} : L2.wipe (L2.wipe σ vs) vs = L2.wipe σ vs := wipe_eq (L2.wipe_length _ _) fun j hj => wipe_get hj
theorem wipe_set {σ : St} {vs : List Nat} {i : Nat} {v : Option V} (h : i ∈ vs) : L2.wipe (σ.set i v) vs = L2.wipe σ vs := wipe_eq (List.length_set ..) fun j hj => List.getElem?_set_ne fun (z : i = j) => hj (by rw [← z]; exact h)

/-- the targets of a comprehension: they store in its own slots alone -/
def MGo (X : Cx) (scope : Scope) (vs : List Nat) (tg : Expr) (g : D → En → Option En) : Prop := ∃ t, (∀ (s : Shared) (H : Hp) (C : Addr) (cl : List (Str × Addr)) (fp : List Addr), PG (X.blk s H scope (compEnvC scope cl C X.env) fp) tg t) ∧
  ∀ σ H (Q : St → Hp → Prop) m p env d v env', EnvR (gn X) m p H none env σ → Rep (gn X) m p H d v → g d env = some env' → (∀ σ', EnvR (gn X) m p H none env' σ' → L2.wipe σ' vs = L2.wipe σ vs → Q σ' H) → t v σ H Q
def MGos (X : Cx) (scope : Scope) (vs : List Nat) (tg : List Expr) (g : List D → En → Option En) : Prop := ∃ t, (∀ (s : Shared) (H : Hp) (C : Addr) (cl : List (Str × Addr)) (fp : List Addr), PGs (X.blk s H scope (compEnvC scope cl C X.env) fp) tg t) ∧
  ∀ σ H (Q : St → Hp → Prop) m p env d v env', EnvR (gn X) m p H none env σ → Reps (gn X) m p H d v → g d env = some env' → (∀ σ', EnvR (gn X) m p H none env' σ' → L2.wipe σ' vs = L2.wipe σ vs → Q σ' H) → t v σ H Q
section
variable {X : Cx} {scope : Scope} {vs : List Nat} {e : Expr} {es : List Expr} {pos : Pos} {g : D → En → Option En} {gs : List D → En → Option En}
theorem mgo_name (i : Nat) {x : Str} (hN : X.N.Nodup) (hm : i ∈ vs := by decide) (hi : X.N[i]? = some x := by rfl)
    (hx : ∀ cl C, Loc (compEnvC scope cl C X.env).scope x := by intro _ _; first | exact .inl rfl | exact .inr rfl)
    (hf : ∀ s H C cl fp, (X.blk s H scope (compEnvC scope cl C X.env) fp).fn x = true ∨ (compEnvC scope cl C X.env).scope.names.lookup x = some .local := by intro _ _ _ _ _; first | exact .inl rfl | exact .inr rfl) : MGo X scope vs (.Name x pos) (gN i) :=
  ⟨_, fun s H C cl fp => pg_name (i := i) hN hi (hx cl C) (hf s H C cl fp), fun σ H Q m p env d v env' E r z k => by
    cases z
    exact k _ (E.set (fun q z => by cases z) r) (wipe_set hm)⟩
theorem mgos_nil : MGos X scope vs [] gsNil := ⟨_, fun _ _ _ _ _ => pgs_nil, fun σ H Q m p env d v env' E r z k => by
  cases d with
  | nil => cases z; exact ⟨reps_nil.mp r, k _ E rfl⟩
  | cons _ _ => cases z⟩
theorem mgos_cons (h1 : MGo X scope vs e g) (h2 : MGos X scope vs es gs)
    (hs : ∀ cl C, (assignEach (e :: es) (compEnvC scope cl C X.env)).map (·.2) = assign e (compEnvC scope cl C X.env) :: (assignEach es (compEnvC scope cl C X.env)).map (·.2) := by intro _ _; rfl) : MGos X scope vs (e :: es) (gsCons g gs) := by
  obtain ⟨t1, p1, q1⟩ := h1
  obtain ⟨t2, p2, q2⟩ := h2
  refine ⟨_, fun s H C cl fp => pgs_cons (p1 s H C cl fp) (p2 s H C cl fp) (hs cl C), fun σ H Q m p env d v env' E r z k => ?_⟩
  cases d with
  | nil => cases z
  | cons d ds =>
    obtain ⟨u, us, rfl, r1, r2⟩ := reps_cons.mp r
    simp only [gsCons, Option.bind_eq_some_iff] at z
    obtain ⟨e1, z1, z2⟩ := z
    exact ⟨u, us, rfl, q1 σ H _ m p env d u e1 E r1 z1 fun σ' E' w1 => q2 σ' H Q m p e1 ds us env' E' r2 z2 fun σ2 E2 w2 => k σ2 E2 (w2.trans w1)⟩
theorem mgo_tup {k n : Nat} (hc : X.calm = true) (h : MGos X scope vs es gs) (hn : ∀ cl C, (assignEach es (compEnvC scope cl C X.env)).length = n := by intro _ _; rfl)
    (hst : ∀ cl C, (assignEach es (compEnvC scope cl C X.env)).findIdx? (·.1) = none := by intro _ _; rfl) : MGo X scope vs (.Tuple es k pos) (gT n gs) := by
  obtain ⟨t1, p1, q1⟩ := h
  refine ⟨gTup X.K n t1, fun s H C cl fp => pg_tup (X := X.blk s H scope (compEnvC scope cl C X.env) fp) hc (p1 s H C cl fp) (hn cl C) (hst cl C), fun σ H Q m p env d v env' E r z k => ?_⟩
  cases d with
  | tup ds =>
    obtain ⟨a, us, rfl, h1, h2⟩ := rep_tup.mp r
    simp only [gT] at z
    by_cases y : ds.length = n
    · rw [if_pos y] at z
      exact ⟨a, us, rfl, Fz.sqT h1, by rw [h2.length]; exact y, q1 σ H Q m p env ds us env' E h2 z k⟩
    · rw [if_neg y] at z; cases z
  | _ => cases z
end
/-- what a comprehension's block evaluates -/
def MEb (X : Cx) (scope : Scope) (e : Expr) (c : EM) : Prop := ∀ (s : Shared) (H : Hp) (C : Addr) (cl : List (Str × Addr)) (fp : List Addr), ME (X.blk s H scope (compEnvC scope cl C X.env) fp) wN none e c
def MTb (X : Cx) (scope : Scope) (e : Expr) (c : TM) : Prop := ∀ (s : Shared) (H : Hp) (C : Addr) (cl : List (Str × Addr)) (fp : List Addr), MT (X.blk s H scope (compEnvC scope cl C X.env) fp) wN none e c
def MTsb (X : Cx) (scope : Scope) (es : List Expr) (c : TM) : Prop := ∀ (s : Shared) (H : Hp) (C : Addr) (cl : List (Str × Addr)) (fp : List Addr), PTs (X.blk s H scope (compEnvC scope cl C X.env) fp) es (rdB (gn X) wN none c)
def tYesM : TM := fun _ st => .ok true st
theorem mts_nil {X : Cx} {scope : Scope} : MTsb X scope [] tYesM := fun s H C cl fp => ⟨fun pins s σ H Q I ⟨m, p, env, st, E, S, h⟩ => (pts_nil (X := X.blk _ _ scope (compEnvC scope cl C X.env) fp)).run pins s σ H Q I (OkB.now h S)⟩
theorem mts_one {X : Cx} {scope : Scope} {e : Expr} {c : TM} (h : MTb X scope e c) : MTsb X scope [e] c := fun s H C cl fp => pts_one (h s H C cl fp)

open Classical in
noncomputable def cRun (g : D → En → Option En) (tt : TM) (te : EM) (gd : Grd) (env : En) : List D → List D → Sto → Option (List D × Sto)
  | acc, [], st => if grdOk gd st then some (acc, st) else none
  | acc, d :: ds, st => if grdOk gd st then match g d env with
      | none => none
      | some e1 => match tt e1 st with
        | .ok true st1 => (match te e1 st1 with
          | .ok y st2 => if acc.length < sizeLine then cRun g tt te gd env (acc ++ [y]) ds st2 else none
          | _ => none)
        | .ok false st1 => cRun g tt te gd env acc ds st1
        | _ => none
    else none
noncomputable def mComp (own : Bool) (c : IM) (g : D → En → Option En) (vs : List Nat) (tt : TM) (te : EM) : EM := fun env st => (c env st).bind fun x st1 => match cRun g tt te x.2 (wipeE env vs) [] x.1 st1 with
  | some (acc, st2) => mkL own acc st2
  | none => .bad

/-! a list in the making: private -/
mutual
theorem Rep.addP {G : Gn} {m p : List Addr} {H : Hp} {q : Addr} {o : HO} (h : H q = none) : ∀ (d : D) (v : V), Rep G m p H d v → Rep G m (q :: p) (upd H q o) d v
  | .non, _, r => rep_non.mpr (rep_non.mp r)
  | .bl _, _, r => rep_bl.mpr (rep_bl.mp r)
  | .int _, _, r => rep_int.mpr (rep_int.mp r)
  | .str _, _, r => rep_str.mpr (rep_str.mp r)
  | .glob _, _, r => rep_glob.mpr (rep_glob.mp r)
  | .ref _, _, r => rep_ref.mpr (rep_ref.mp r)
  | .tup ds, _, r => by
    obtain ⟨a, vs, e, h1, h2⟩ := rep_tup.mp r
    refine rep_tup.mpr ⟨a, vs, e, h1.imp (fun ⟨z, y1, y2⟩ => ?_) id, Reps.addP h ds vs h2⟩
    have hne : a ≠ q := ne_of_none z h
    exact ⟨by rw [upd_ne hne]; exact z, y1, by simp [hne, y2]⟩
  | .rl ds, _, r => by
    obtain ⟨a, vs, e, h1, h2⟩ := rep_rl.mp r
    refine rep_rl.mpr ⟨a, vs, e, h1.imp (fun ⟨z, y1, y2⟩ => ?_) id, Reps.addP h ds vs h2⟩
    have hne : a ≠ q := by
      rcases z with z | ⟨ob, z⟩
      · exact ne_of_none z h
      · exact ne_of_none z h
    exact ⟨z.imp (fun z => by rw [upd_ne hne]; exact z) fun ⟨ob, z⟩ => ⟨ob, by rw [upd_ne hne]; exact z⟩, y1, by simp [hne, y2]⟩
  | .fl ds, _, r => by
    obtain ⟨a, vs, e, ⟨z, y1, y2⟩, h2⟩ := rep_fl.mp r
    have hne : a ≠ q := ne_of_none z h
    exact rep_fl.mpr ⟨a, vs, e, ⟨by rw [upd_ne hne]; exact z, y1, by simp [hne, y2]⟩, Reps.addP h ds vs h2⟩
theorem Reps.addP {G : Gn} {m p : List Addr} {H : Hp} {q : Addr} {o : HO} (h : H q = none) : ∀ (ds : List D) (vs : List V), Reps G m p H ds vs → Reps G m (q :: p) (upd H q o) ds vs
  | [], _, r => reps_nil.mpr (reps_nil.mp r)
  | d :: ds, _, r => by
    obtain ⟨v, ws, e, h1, h2⟩ := reps_cons.mp r
    exact reps_cons.mpr ⟨v, ws, e, Rep.addP h d v h1, Reps.addP h ds ws h2⟩
end
mutual
/-- what is private may change -/
theorem Rep.chgP {G : Gn} {m p : List Addr} {H : Hp} {q : Addr} {o : HO} (h : q ∈ p) : ∀ (d : D) (v : V), Rep G m p H d v → Rep G m p (upd H q o) d v
  | .non, _, r => rep_non.mpr (rep_non.mp r)
  | .bl _, _, r => rep_bl.mpr (rep_bl.mp r)
  | .int _, _, r => rep_int.mpr (rep_int.mp r)
  | .str _, _, r => rep_str.mpr (rep_str.mp r)
  | .glob _, _, r => rep_glob.mpr (rep_glob.mp r)
  | .ref _, _, r => rep_ref.mpr (rep_ref.mp r)
  | .tup ds, _, r => by
    obtain ⟨a, vs, e, h1, h2⟩ := rep_tup.mp r
    refine rep_tup.mpr ⟨a, vs, e, h1.imp (fun ⟨z, y1, y2⟩ => ?_) id, Reps.chgP h ds vs h2⟩
    have hne : a ≠ q := fun w => y2 (w ▸ h)
    exact ⟨by rw [upd_ne hne]; exact z, y1, y2⟩
  | .rl ds, _, r => by
    obtain ⟨a, vs, e, h1, h2⟩ := rep_rl.mp r
    refine rep_rl.mpr ⟨a, vs, e, h1.imp (fun ⟨z, y1, y2⟩ => ?_) id, Reps.chgP h ds vs h2⟩
    have hne : a ≠ q := fun w => y2 (w ▸ h)
    exact ⟨z.imp (fun z => by rw [upd_ne hne]; exact z) fun ⟨ob, z⟩ => ⟨ob, by rw [upd_ne hne]; exact z⟩, y1, y2⟩
  | .fl ds, _, r => by
    obtain ⟨a, vs, e, ⟨z, y1, y2⟩, h2⟩ := rep_fl.mp r
    have hne : a ≠ q := fun w => y2 (w ▸ h)
    exact rep_fl.mpr ⟨a, vs, e, ⟨by rw [upd_ne hne]; exact z, y1, y2⟩, Reps.chgP h ds vs h2⟩
theorem Reps.chgP {G : Gn} {m p : List Addr} {H : Hp} {q : Addr} {o : HO} (h : q ∈ p) : ∀ (ds : List D) (vs : List V), Reps G m p H ds vs → Reps G m p (upd H q o) ds vs
  | [], _, r => reps_nil.mpr (reps_nil.mp r)
  | d :: ds, _, r => by
    obtain ⟨v, ws, e, h1, h2⟩ := reps_cons.mp r
    exact reps_cons.mpr ⟨v, ws, e, Rep.chgP h d v h1, Reps.chgP h ds ws h2⟩
end
/-- .. is let go: to those that never change, or to ours -/
def Sub (m p m' p' : List Addr) : Prop := (∀ (n : Nat) (a : Addr), m[n]? = some a → m'[n]? = some a) ∧ ∀ a : Addr, a ∉ m → a ∉ p → a ∉ m' ∧ a ∉ p'
mutual
theorem Rep.sub {G : Gn} {m p m' p' : List Addr} {H : Hp} (h : Sub m p m' p') : ∀ (d : D) (v : V), Rep G m p H d v → Rep G m' p' H d v
  | .non, _, r => rep_non.mpr (rep_non.mp r)
  | .bl _, _, r => rep_bl.mpr (rep_bl.mp r)
  | .int _, _, r => rep_int.mpr (rep_int.mp r)
  | .str _, _, r => rep_str.mpr (rep_str.mp r)
  | .glob _, _, r => rep_glob.mpr (rep_glob.mp r)
  | .ref n, _, r => by
    obtain ⟨a, e, h1⟩ := rep_ref.mp r
    exact rep_ref.mpr ⟨a, e, h.1 n a h1⟩
  | .tup ds, _, r => by
    obtain ⟨a, vs, e, h1, h2⟩ := rep_tup.mp r
    exact rep_tup.mpr ⟨a, vs, e, h1.imp (fun ⟨z, y1, y2⟩ => ⟨z, h.2 a y1 y2⟩) id, Reps.sub h ds vs h2⟩
  | .rl ds, _, r => by
    obtain ⟨a, vs, e, h1, h2⟩ := rep_rl.mp r
    exact rep_rl.mpr ⟨a, vs, e, h1.imp (fun ⟨z, y1, y2⟩ => ⟨z, h.2 a y1 y2⟩) id, Reps.sub h ds vs h2⟩
  | .fl ds, _, r => by
    obtain ⟨a, vs, e, ⟨z, y1, y2⟩, h2⟩ := rep_fl.mp r
    exact rep_fl.mpr ⟨a, vs, e, ⟨z, h.2 a y1 y2⟩, Reps.sub h ds vs h2⟩
theorem Reps.sub {G : Gn} {m p m' p' : List Addr} {H : Hp} (h : Sub m p m' p') : ∀ (ds : List D) (vs : List V), Reps G m p H ds vs → Reps G m' p' H ds vs
  | [], _, r => reps_nil.mpr (reps_nil.mp r)
  | d :: ds, _, r => by
    obtain ⟨v, ws, e, h1, h2⟩ := reps_cons.mp r
    exact reps_cons.mpr ⟨v, ws, e, Rep.sub h d v h1, Reps.sub h ds ws h2⟩
end
theorem KvR.map {κ : Type} {G G' : Gn} {m p m' p' : List Addr} {H H' : Hp} (h : ∀ d v, Rep G m p H d v → Rep G' m' p' H' d v) : ∀ {ds : List (κ × D)} {vs : List (κ × V)}, KvR G m p H ds vs → KvR G' m' p' H' ds vs
  | [], _, r => r
  | (f, d) :: ds, _, r => by
    obtain ⟨v, ws, e, h1, h2⟩ := r
    exact ⟨v, ws, e, h d v h1, KvR.map h h2⟩
theorem MoR.map {G : Gn} {m p m' p' : List Addr} {H H' : Hp} {a : Addr} (h : ∀ d v, Rep G m p H d v → Rep G m' p' H' d v) (hs : ∀ ds vs, Reps G m p H ds vs → Reps G m' p' H' ds vs) (ha : H' a = H a) : ∀ {o : MO}, MoR G m p H o a → MoR G m' p' H' o a
  | .lst ds, ⟨vs, e, r⟩ => ⟨vs, ha.trans e, hs _ _ r⟩
  | .dk ds, ⟨vs, e, r⟩ => ⟨vs, ha.trans e, r.map h⟩
  | .dt ds, ⟨vs, e, r⟩ => ⟨vs, ha.trans e, r.map h⟩
  | .ins c ds, ⟨C, dx, gs, hc, e, r⟩ => ⟨C, dx, gs, hc, ha.trans e, r.map h⟩
theorem EnvR.map {G : Gn} {m p m' p' : List Addr} {H H' : Hp} {env : En} {σ : St} (h : ∀ d v, Rep G m p H d v → Rep G m' p' H' d v) (E : EnvR G m p H none env σ) : EnvR G m' p' H' none env σ :=
  ⟨E.1, fun i d hi => by
    obtain ⟨v, h1, h2⟩ := E.get hi (fun q z => by cases z)
    exact .inr ⟨fun q z => (by cases z), v, h1, h d v h2⟩⟩
theorem SR.addP {G : Gn} {m p : List Addr} {H : Hp} {st : Sto} {q : Addr} {o : HO} (S : SR G m p H st) (h : H q = none) : SR G m (q :: p) (upd H q o) st := by
  have nd := List.nodup_append.mp S.nd
  have hm : q ∉ m := fun z => S.live q z h
  have hp : q ∉ p := fun z => S.lp q z h
  refine ⟨List.nodup_append.mpr ⟨nd.1, List.nodup_cons.mpr ⟨hp, nd.2.1⟩, fun a ha b hb => ?_⟩, S.len, fun n a u h1 h2 => ?_, fun a ha => ?_⟩
  · rcases List.mem_cons.mp hb with rfl | hb
    · exact fun z => hm (z ▸ ha)
    · exact nd.2.2 a ha b hb
  · have hne : a ≠ q := fun z => hm (z ▸ List.mem_of_getElem? h1)
    exact (S.ob n a u h1 h2).map (Rep.addP h) (Reps.addP h) (upd_ne hne)
  · rcases List.mem_cons.mp ha with rfl | ha
    · rw [upd_same]; intro z; cases z
    · have hne : a ≠ q := fun z => hp (z ▸ ha)
      rw [upd_ne hne]; exact S.lp a ha
theorem SR.chgP {G : Gn} {m p : List Addr} {H : Hp} {st : Sto} {q : Addr} {o : HO} (S : SR G m p H st) (h : q ∈ p) : SR G m p (upd H q o) st := by
  have nd := List.nodup_append.mp S.nd
  refine ⟨S.nd, S.len, fun n a u h1 h2 => ?_, fun a ha => ?_⟩
  · have hne : a ≠ q := fun z => nd.2.2 a (List.mem_of_getElem? h1) q h z
    exact (S.ob n a u h1 h2).map (Rep.chgP h) (Reps.chgP h) (upd_ne hne)
  · by_cases z : a = q
    · rw [z, upd_same]; intro z; cases z
    · rw [upd_ne z]; exact S.lp a ha
section
variable {X : Cx} {W : WX} {tg iter elt : Expr} {ifs : List Expr} {scope : Scope} {pos spos py : Pos} {own : List (Str × Nat)} {c : IM} {g : D → En → Option En} {tt : TM} {te : EM} {y : Str}
/-- the reading of a comprehension -/
theorem rdComp (o : Bool) {wi : TI} {t : TG} {vs : List Nat} (q1 : ∀ σ H R m p env st, EnvR (gn X) m p H none env σ → SR (gn X) m p H st → OkI (gn X) W m p H σ (c env st) R → wi σ H R)
    (q2 : ∀ σ H (Q : St → Hp → Prop) m p env d v env', EnvR (gn X) m p H none env σ → Rep (gn X) m p H d v → g d env = some env' → (∀ σ', EnvR (gn X) m p H none env' σ' → L2.wipe σ' vs = L2.wipe σ vs → Q σ' H) → t v σ H Q)
    (σ : St) (H : Hp) (Q : VK) (h : ∃ m p env st, EnvR (gn X) m p H none env σ ∧ SR (gn X) m p H st ∧ OkD (gn X) W m p H σ (mComp o c g vs tt te env st) Q) :
    tLc wi t (rdB (gn X) wN none tt) (rdD (gn X) wN none te) vs σ H Q := by
  obtain ⟨m, p, env, sto, E, S, h⟩ := h
  refine q1 σ H _ m p env sto E S ?_
  unfold mComp at h
  cases q : c env sto with
  | bad => rw [q] at h; exact h
  | exc x v st1 => rw [q] at h; exact h
  | ok x st1 =>
    obtain ⟨ds, gd⟩ := x
    rw [q] at h
    intro J m0 H0 e0 s0 g0 ok L hL
    have h0 : OkD (gn X) W m0 p H0 σ (match cRun g tt te gd (wipeE env vs) [] ds st1 with
      | some (acc, st2) => mkL o acc st2
      | none => .bad) Q := OkD.ext h e0
    clear h
    refine ⟨fun i n H2 => ∃ m2 st2 acc us, Ext m0 H0 m2 H2 ∧ (∀ d v, Rep (gn X) m0 p H0 d v → Rep (gn X) m2 (L :: p) H2 d v) ∧ EnvR (gn X) m2 (L :: p) H2 none (wipeE env vs) (L2.wipe σ vs) ∧ SR (gn X) m2 (L :: p) H2 st2 ∧ H2 L = some (.lst us) ∧ Reps (gn X) m2 (L :: p) H2 acc us ∧
      cRun g tt te gd (wipeE env vs) acc (ds.drop i) st2 = cRun g tt te gd (wipeE env vs) [] ds st1 ∧ n = ds.length - i,
      ⟨ds.length - 0, m0, st1, [], [], Ext.new hL, Rep.addP hL, ((E.ext e0).wipe vs).map (Rep.addP hL), s0.addP hL, upd_same, reps_nil.mpr rfl, rfl, rfl⟩, ?_⟩
    rintro i n H2 ⟨m2, st2, acc, us, x2, k2, E2, S2, hl2, r2, hc, rfl⟩
    cases hd : ds.drop i with
    | nil =>
      rw [hd, cRun] at hc
      by_cases gg : grdOk gd st2
      · rw [if_pos gg] at hc
        rw [← hc] at h0
        have nd := List.nodup_append.mp S2.nd
        have hLm : L ∉ m2 := fun z => nd.2.2 L z L List.mem_cons_self rfl
        have hLp : L ∉ p := (List.nodup_cons.mp nd.2.1).1
        have hstop : J.stop i H2 := by
          have hlen : ds.length ≤ i := by
            have := congrArg List.length hd
            rw [List.length_drop, List.length_nil] at this
            omega
          exact (ok.all i m2 (L :: p) H2 st2 k2 S2 gg).1 hlen
        refine .inl ⟨hstop, ?_⟩
        simp only [mkL] at h0
        cases o with
        | true =>
          rw [if_pos rfl] at h0
          have su : Sub m2 (L :: p) (m2 ++ [L]) p := ⟨fun n a z => by rw [List.getElem?_append_left (List.getElem?_eq_some_iff.mp z).1]; exact z,
            fun a h1 h2 => ⟨fun z => (List.mem_append.mp z).elim h1 fun z => h2 (by rw [List.mem_singleton.mp z]; exact List.mem_cons_self), fun z => h2 (List.mem_cons_of_mem _ z)⟩⟩
          obtain ⟨l, hl, hl2'⟩ := x2.pre
          refine h0 (.ref L) (m2 ++ [L]) H2 ⟨⟨l ++ [L], by rw [hl, List.append_assoc], fun a ha => ?_⟩, x2.keep, x2.live⟩ ⟨by rw [List.append_assoc]; exact S2.nd, by simp [S2.len], fun n a u h1 h2 => ?_, fun a ha => S2.lp a (List.mem_cons_of_mem _ ha)⟩
            (rep_ref.mpr ⟨L, rfl, by rw [← S2.len]; simp⟩)
          · rcases List.mem_append.mp ha with z | z
            · exact hl2' a z
            · rw [List.mem_singleton.mp z]; exact hL
          · by_cases hn : n < m2.length
            · rw [List.getElem?_append_left hn] at h1
              rw [List.getElem?_append_left (by rw [← S2.len]; exact hn)] at h2
              exact (S2.ob n a u h1 h2).map (Rep.sub su) (Reps.sub su) rfl
            · have hn : m2.length ≤ n := Nat.le_of_not_lt hn
              rw [List.getElem?_append_right hn] at h1
              rw [List.getElem?_append_right (by rw [← S2.len]; exact hn)] at h2
              have e9 : n - m2.length = 0 := by
                cases q0 : n - m2.length with
                | zero => rfl
                | succ k => rw [q0] at h1; simp at h1
              rw [e9] at h1
              rw [← S2.len, e9] at h2
              simp at h1 h2
              subst h1; subst h2
              exact ⟨us, hl2, Reps.sub su _ _ r2⟩
        | false =>
          rw [if_neg (by decide)] at h0
          have su : Sub m2 (L :: p) m2 p := ⟨fun _ _ z => z, fun a h1 h2 => ⟨h1, fun z => h2 (List.mem_cons_of_mem _ z)⟩⟩
          exact h0 (.ref L) m2 H2 x2 ⟨List.nodup_append.mpr ⟨nd.1, (List.nodup_cons.mp nd.2.1).2, fun a ha b hb => nd.2.2 a ha b (List.mem_cons_of_mem _ hb)⟩, S2.len,
            fun n a u h1 h2 => (S2.ob n a u h1 h2).map (Rep.sub su) (Reps.sub su) rfl, fun a ha => S2.lp a (List.mem_cons_of_mem _ ha)⟩ (rep_fl.mpr ⟨L, us, rfl, ⟨hl2, hLm, hLp⟩, Reps.sub su _ _ r2⟩)
      · rw [if_neg gg] at hc
        rw [← hc] at h0
        exact h0.elim
    | cons d rest =>
      have hlt : i < ds.length := by
        have := congrArg List.length hd
        rw [List.length_drop, List.length_cons] at this
        omega
      have hdi : ds[i]? = some d := by
        have h3 : (ds.drop i)[0]? = some d := by rw [hd]; rfl
        rw [List.getElem?_drop] at h3
        exact h3
      have hrest : rest = ds.drop (i + 1) := by
        have h3 : (ds.drop i).drop 1 = rest := by rw [hd]; rfl
        rw [List.drop_drop] at h3
        exact h3.symm
      rw [hd, cRun] at hc
      by_cases gg : grdOk gd st2
      · rw [if_pos gg] at hc
        obtain ⟨go, hy⟩ := (ok.all i m2 (L :: p) H2 st2 k2 S2 gg).2 d hdi
        cases hgd : g d (wipeE env vs) with
        | none => simp only [hgd] at hc; rw [← hc] at h0; exact h0.elim
        | some e3 =>
          simp only [hgd] at hc
          refine .inr ⟨go, _, fun H' hN => ⟨ds.length - (i + 1), by omega, hN⟩, fun x H3 hx => ?_⟩
          obtain ⟨y1, y2, y3⟩ := hy x H3 hx
          have hLm : ∀ {m3 : List Addr} {H' : Hp} {st3 : Sto}, SR (gn X) m3 (L :: p) H' st3 → L ∉ m3 := fun S z => (List.nodup_append.mp S.nd).2.2 L z L List.mem_cons_self rfl
          have hl3 : H3 L = some (.lst us) := y1.keep L _ hl2 (hLm S2)
          refine q2 (L2.wipe σ vs) H3 _ m2 (L :: p) (wipeE env vs) d x e3 (E2.ext y1) y3 hgd fun σ3 E3 w3 => ⟨w3.trans wipe_idem, m2, L :: p, e3, st2, E3, y2, ?_⟩
          rw [hrest] at hc
          cases hq1 : tt e3 st2 with
          | bad => rw [hq1] at hc; rw [← hc] at h0; exact h0.elim
          | exc _ _ _ => rw [hq1] at hc; rw [← hc] at h0; exact h0.elim
          | ok b st3 =>
            rw [hq1] at hc
            intro m3 H4 x4 s4
            have hl4 : H4 L = some (.lst us) := x4.keep L _ hl3 (hLm y2)
            have x24 := y1.trans x4
            cases b with
            | false => exact ⟨m3, st3, acc, us, x2.trans x24, fun d v z => Rep.ext x24 _ _ (k2 d v z), E2.ext x24, s4, hl4, Reps.ext x24 _ _ r2, hc, rfl⟩
            | true =>
              refine ⟨m3, L :: p, e3, st3, E3.ext x4, s4, ?_⟩
              simp only at hc
              cases hq2 : te e3 st3 with
              | bad => rw [hq2] at hc; rw [← hc] at h0; exact h0.elim
              | exc _ _ _ => rw [hq2] at hc; rw [← hc] at h0; exact h0.elim
              | ok yy st5 =>
                rw [hq2] at hc
                intro v m5 H5 x5 s5 r5
                by_cases hz : acc.length < sizeLine
                · simp only [if_pos hz] at hc
                  have hl5 : H5 L = some (.lst us) := x5.keep L _ hl4 (hLm s4)
                  have x25 := x24.trans x5
                  have hLp : L ∈ L :: p := List.mem_cons_self
                  exact ⟨us, hl5, by rw [r2.length]; exact hz, m5, st5, acc ++ [yy], us ++ [v], (x2.trans x25).mutP hL, fun d v z => Rep.chgP hLp _ _ (Rep.ext x25 _ _ (k2 d v z)), (E2.ext x25).map (Rep.chgP hLp), s5.chgP hLp, upd_same,
                    (Reps.chgP hLp _ _ (Reps.ext x25 _ _ r2)).append (.one (Rep.chgP hLp _ _ r5)), hc, rfl⟩
                · simp only [if_neg hz] at hc
                  rw [← hc] at h0; exact h0.elim
      · rw [if_neg gg] at hc
        rw [← hc] at h0
        exact h0.elim
/-- [elt for tg in iter if ..] -/
theorem me_comp (o : Bool) (vs : List Nat) (hc : X.calm = true) (hN : X.N.Nodup) (hi : MI X W none tg iter c) (hg : MGo X scope vs tg g) (ht : MTsb X scope ifs tt) (he : MEb X scope elt te) (hv : own.map (·.2) = vs := by rfl) (ok : BlkOk X.N X.env.scope scope own := by exact blkOk_by (by kernel_rfl)) (hs : ∀ x, foldedSetIterable iter X.env x = pure x := by intro _; rfl) :
    ME X W none (.ListComp elt [⟨tg, iter, ifs, 0⟩] scope pos) (mComp o c g vs tt te) := by
  obtain ⟨wi, p1, q1⟩ := hi
  obtain ⟨t, p2, q2⟩ := hg
  subst hv
  have he' : ∀ (s : Shared) (H : Hp) (C : Addr) (cl : List (Str × Addr)) (fp : List Addr), PE (X.blk s H scope (compEnvC scope cl C X.env) fp) elt (rdD (gn X) wN none te) := fun s H C cl fp => he s H C cl fp
  exact PEi (pe_lc hc hN p1 ok p2 ht he' hs) (rdComp o q1 q2)
/-- name = [elt for tg in iter if ..] -/
theorem ms_setComp (o : Bool) (i : Nat) (vs : List Nat) (hc : X.calm = true) (hN : X.N.Nodup) (hi : MI X W none tg iter c) (hg : MGo X scope vs tg g) (ht : MTsb X scope ifs tt) (he : MEb X scope elt te) (hv : own.map (·.2) = vs := by rfl) (hy : X.N[i]? = some y := by rfl)
    (hyl : X.env.scope.names.lookup y = some .local := by rfl) (hsw : swapsWith (.ListComp elt [⟨tg, iter, ifs, 0⟩] scope pos) (some (.Name y py)) spos.line X.env = pure true := by rfl) (ok : BlkOk X.N X.env.scope scope own := by exact blkOk_by (by kernel_rfl))
    (hs : ∀ x, foldedSetIterable iter X.env x = pure x := by intro _; rfl) :
    MS X W none (.Assign [.Name y py] (.ListComp elt [⟨tg, iter, ifs, 0⟩] scope pos) spos) (sSet i (mComp o c g vs tt te)) := by
  obtain ⟨wi, p1, q1⟩ := hi
  obtain ⟨t, p2, q2⟩ := hg
  subst hv
  have he' : ∀ (s : Shared) (H : Hp) (C : Addr) (cl : List (Str × Addr)) (fp : List Addr), PE (X.blk s H scope (compEnvC scope cl C X.env) fp) elt (rdD (gn X) wN none te) := fun s H C cl fp => he s H C cl fp
  refine PSi (ps_setLc hc hN hy hyl hsw p1 ok p2 ht he' hs) fun Dn σ H ⟨m, p, env, st, E, S, h⟩ => rdComp o q1 q2 σ H _ ⟨m, p, env, st, E, S, h.andD E fun d st1 v m1 H1 e1 s1 r1 h1 => OkS.nowN h1 ((E.ext e1).set (fun q z => by cases z) r1) s1⟩
end
end Mi

namespace Mi
open PySem L2

/-! ## built-in functions -/
def BlR (G : Gn) (r : List V → Hp → VK → Prop) (f : List D → Sto → Out D) : Prop :=
  ∀ (W : WX) (σ : L2.St) (m p : List Addr) (H : Hp) (st : Sto) (ds : List D) (vs : List V) (Q : VK), SR G m p H st → Reps G m p H ds vs → OkD G W m p H σ (f ds st) Q → r vs H Q
structure BlOk (X : Cx) (u : Value) (f : List D → Sto → Out D) : Prop where
  ok : ∃ r, CallR X u r ∧ BlR (gn X) r f
def mFn (f : List D → Sto → Out D) (a : AM) : EM := fun env st => (a env st).bind f
section
variable {X : Cx} {W : WX} {xs : XSlot} {x : Str} {p pos : Pos} {e : Expr} {es : List Expr} {r : AM} {id T : String} {f : List D → Sto → Out D}
theorem rdFn {rr : List V → Hp → VK → Prop} (hr : BlR (gn X) rr f) (σ : L2.St) (H : Hp) (Q : VK) (h : rdD (gn X) W xs (mFn f r) σ H Q) : tCB rr (rdA (gn X) W xs r) σ H Q := by
  obtain ⟨m, p, env, st, E, S, h⟩ := h
  exact ⟨m, p, env, st, E, S, h.andA fun ds st1 vs m1 H1 e1 s1 r1 h1 => hr W σ m1 p H1 st1 ds vs Q s1 r1 h1⟩
theorem me_blt (hc : BlOk X (.builtin id) f) (hg : Gl X x) (hm : X.mg x = none) (hv : bootBuiltins x = some (.builtin id)) (ha : MA X W xs (e :: es) r) (hn : x ≠ "__name__" := by decide) (hdb : (x == ("__debug__" : Str)) = false := by decide)
    (he : starEach (e :: es) X.env = (false, eval e X.env) :: starEach es X.env := by rfl) (hpl : (backTo pos (starEach es X.env)).any (·.1) = false := by rfl) : ME X W xs (.Call (.Name x p) (e :: es) [] pos) (mFn f r) := by
  obtain ⟨rr, h1, h2⟩ := hc.ok
  exact PEi (pe_callB h1 hg hm hv ha hn hdb he hpl) (rdFn h2)
theorem me_bty (hc : BlOk X (.type T) f) (hg : Gl X x) (hm : X.mg x = none) (hv : bootBuiltins x = some (.type T)) (ha : MA X W xs (e :: es) r) (hn : x ≠ "__name__" := by decide) (hdb : (x == ("__debug__" : Str)) = false := by decide)
    (he : starEach (e :: es) X.env = (false, eval e X.env) :: starEach es X.env := by rfl) (hpl : (backTo pos (starEach es X.env)).any (·.1) = false := by rfl) : ME X W xs (.Call (.Name x p) (e :: es) [] pos) (mFn f r) := by
  obtain ⟨rr, h1, h2⟩ := hc.ok
  exact PEi (pe_callTy h1 hg hm hv ha hn hdb he hpl) (rdFn h2)
end
section
variable {G : Gn} {m p : List Addr} {H : Hp} {d e : D} {ds : List D} {vs : List V}
theorem reps_1 (r : Reps G m p H [d] vs) : ∃ v, vs = [v] ∧ Rep G m p H d v := by
  obtain ⟨v, ws, rfl, h1, h2⟩ := reps_cons.mp r
  rw [reps_nil.mp h2]; exact ⟨v, rfl, h1⟩
theorem reps_2 (r : Reps G m p H [d, e] vs) : ∃ v u, vs = [v, u] ∧ Rep G m p H d v ∧ Rep G m p H e u := by
  obtain ⟨v, ws, rfl, h1, h2⟩ := reps_cons.mp r
  obtain ⟨u, rfl, h3⟩ := reps_1 h2
  exact ⟨v, u, rfl, h1, h3⟩
end
/-- len -/
def fLen : List D → Sto → Out D
  | [.str z], st => if z.length ≤ sizeLine then .ok (.int z.length) st else .bad
  | [d], st => match seqv st d with
    | some ys => .ok (.int ys.length) st
    | none => .bad
  | _, _ => .bad
def fAbs : List D → Sto → Out D
  | [.int i], st => .ok (.int (if i < 0 then -i else i)) st
  | _, _ => .bad
def fMax2 : List D → Sto → Out D
  | [.int i, .int j], st => .ok (.int (if j > i then j else i)) st
  | _, _ => .bad
def fMin2 : List D → Sto → Out D
  | [.int i, .int j], st => .ok (.int (if j < i then j else i)) st
  | _, _ => .bad
def fInt1 : List D → Sto → Out D
  | [.int i], st => .ok (.int i) st
  | [.bl k], st => .ok (.int (if k = true then 1 else 0)) st
  | _, _ => .bad
def fStr1 : List D → Sto → Out D
  | [.int i], st => if i.natAbs.log2 < 1920 then .ok (.str (toString i)) st else .bad
  | _, _ => .bad
def fTuple : List D → Sto → Out D
  | [d], st => match seqv st d with
    | some ys => .ok (.tup ys) st
    | none => .bad
  | _, _ => .bad
def fList (own : Bool) : List D → Sto → Out D
  | [d], st => match seqv st d with
    | some ys => mkL own ys st
    | none => .bad
  | _, _ => .bad
def intsD : List D → Option (List Int)
  | [] => some []
  | .int i :: r => (intsD r).map (i :: ·)
  | _ => none
def blsD : List D → Option (List Bool)
  | [] => some []
  | .bl i :: r => (blsD r).map (i :: ·)
  | _ => none
theorem intsD_rep {G : Gn} {m p : List Addr} {H : Hp} : ∀ {ds : List D} {vs : List V} {ns : List Int}, Reps G m p H ds vs → intsD ds = some ns → vs = ns.map V.int
  | [], _, _, r, h => by cases h; rw [reps_nil.mp r]; rfl
  | d :: ds, _, ns, r, h => by
    obtain ⟨v, ws, rfl, h1, h2⟩ := reps_cons.mp r
    cases d with
    | int i =>
      simp only [intsD, Option.map_eq_some_iff] at h
      obtain ⟨ms, h3, rfl⟩ := h
      rw [rep_int.mp h1, intsD_rep h2 h3]; rfl
    | _ => simp [intsD] at h
theorem blsD_rep {G : Gn} {m p : List Addr} {H : Hp} : ∀ {ds : List D} {vs : List V} {ns : List Bool}, Reps G m p H ds vs → blsD ds = some ns → vs = ns.map V.bl
  | [], _, _, r, h => by cases h; rw [reps_nil.mp r]; rfl
  | d :: ds, _, ns, r, h => by
    obtain ⟨v, ws, rfl, h1, h2⟩ := reps_cons.mp r
    cases d with
    | bl i =>
      simp only [blsD, Option.map_eq_some_iff] at h
      obtain ⟨ms, h3, rfl⟩ := h
      rw [rep_bl.mp h1, blsD_rep h2 h3]; rfl
    | _ => simp [blsD] at h
theorem reps_ints {G : Gn} {m p : List Addr} {H : Hp} : ∀ ns : List Int, Reps G m p H (ns.map D.int) (ns.map V.int)
  | [] => reps_nil.mpr rfl
  | n :: ns => reps_cons.mpr ⟨_, _, rfl, rep_int.mpr rfl, reps_ints ns⟩
/-- the greatest, the least -/
def maxI : List Int → Int
  | [] => 0
  | [a] => a
  | a :: b :: r => let z := maxI (b :: r); if a < z then z else a
def minI : List Int → Int
  | [] => 0
  | [a] => a
  | a :: b :: r => let z := minI (b :: r); if z < a then z else a
theorem maxI_ok : ∀ {ns : List Int}, ns ≠ [] → maxI ns ∈ ns ∧ ∀ y ∈ ns, y ≤ maxI ns
  | [], h => absurd rfl h
  | [a], _ => by simp [maxI]
  | a :: b :: r, _ => by
    obtain ⟨h1, h2⟩ := maxI_ok (ns := b :: r) (by simp)
    unfold maxI
    by_cases z : a < maxI (b :: r)
    · simp only [if_pos z]
      refine ⟨List.mem_cons_of_mem _ h1, fun y hy => ?_⟩
      rcases List.mem_cons.mp hy with rfl | hy
      · omega
      · exact h2 y hy
    · simp only [if_neg z]
      refine ⟨List.mem_cons_self, fun y hy => ?_⟩
      rcases List.mem_cons.mp hy with rfl | hy
      · omega
      · have := h2 y hy; omega
theorem minI_ok : ∀ {ns : List Int}, ns ≠ [] → minI ns ∈ ns ∧ ∀ y ∈ ns, minI ns ≤ y
  | [], h => absurd rfl h
  | [a], _ => by simp [minI]
  | a :: b :: r, _ => by
    obtain ⟨h1, h2⟩ := minI_ok (ns := b :: r) (by simp)
    unfold minI
    by_cases z : minI (b :: r) < a
    · simp only [if_pos z]
      refine ⟨List.mem_cons_of_mem _ h1, fun y hy => ?_⟩
      rcases List.mem_cons.mp hy with rfl | hy
      · omega
      · exact h2 y hy
    · simp only [if_neg z]
      refine ⟨List.mem_cons_self, fun y hy => ?_⟩
      rcases List.mem_cons.mp hy with rfl | hy
      · omega
      · have := h2 y hy; omega
def fMaxL : List D → Sto → Out D
  | [d], st => match (lstv st d).bind intsD with
    | some ns => if ns ≠ [] then .ok (.int (maxI ns)) st else .bad
    | none => .bad
  | _, _ => .bad
def fMinL : List D → Sto → Out D
  | [d], st => match (lstv st d).bind intsD with
    | some ns => if ns ≠ [] then .ok (.int (minI ns)) st else .bad
    | none => .bad
  | _, _ => .bad
def fSum : List D → Sto → Out D
  | [d], st => match (lstv st d).bind intsD with
    | some ns => .ok (.int ns.sum) st
    | none => .bad
  | _, _ => .bad
def fAll : List D → Sto → Out D
  | [d], st => match (lstv st d).bind blsD with
    | some ns => .ok (.bl (ns.all id)) st
    | none => .bad
  | _, _ => .bad
def fAny : List D → Sto → Out D
  | [d], st => match (lstv st d).bind blsD with
    | some ns => .ok (.bl (ns.any id)) st
    | none => .bad
  | _, _ => .bad
section
variable {X : Cx}
theorem bl_len : BlOk X (.builtin "len") fLen := by
  refine ⟨_, CallR.or call_len_str call_len_seq, ?_⟩
  intro W σ m p H st ds vs Q S r h
  match ds, h with
  | [], h => exact h.elim
  | [d], h =>
    obtain ⟨v, rfl, rv⟩ := reps_1 r
    have key := fun (hx : fLen [d] st = match seqv st d with
      | some ys => .ok (.int ys.length) st
      | none => .bad) => (show ∃ p ys, [v] = [V.ref p] ∧ (SqL X.K H p ys ∨ SqT X.K H p ys) ∧ Q (.int ys.length) H by
        rw [hx] at h
        cases q : seqv st d with
        | none => rw [q] at h; exact h.elim
        | some ys =>
          rw [q] at h
          obtain ⟨a, ws, rfl, h1, h2⟩ := seqv_rep S rv q
          exact ⟨a, ws, rfl, h1, by rw [h2.length]; exact OkD.now h S (rep_int.mpr rfl)⟩)
    cases d with
    | str z =>
      by_cases q : z.length ≤ sizeLine
      · simp only [fLen, if_pos q] at h
        exact .inl ⟨z, by rw [rep_str.mp rv], q, OkD.now h S (rep_int.mpr rfl)⟩
      · simp only [fLen, if_neg q] at h; exact h.elim
    | _ => exact .inr (key rfl)
  | a :: _ :: _, h => cases a <;> exact (h : False).elim
theorem bl_abs : BlOk X (.builtin "abs") fAbs := by
  refine ⟨_, call_abs, ?_⟩
  intro W σ m p H st ds vs Q S r h
  match ds, h with
  | [.int i], h =>
    obtain ⟨v, rfl, rv⟩ := reps_1 r
    exact ⟨i, by rw [rep_int.mp rv], OkD.now h S (rep_int.mpr rfl)⟩
theorem bl_max2 (hc : X.calm = true) : BlOk X (.builtin "max") fMax2 := by
  refine ⟨_, call_max2 hc, ?_⟩
  intro W σ m p H st ds vs Q S r h
  match ds, h with
  | [.int i, .int j], h =>
    obtain ⟨v, u, rfl, rv, ru⟩ := reps_2 r
    exact ⟨i, j, by rw [rep_int.mp rv, rep_int.mp ru], OkD.now h S (rep_int.mpr rfl)⟩
theorem bl_min2 (hc : X.calm = true) : BlOk X (.builtin "min") fMin2 := by
  refine ⟨_, call_min2 hc, ?_⟩
  intro W σ m p H st ds vs Q S r h
  match ds, h with
  | [.int i, .int j], h =>
    obtain ⟨v, u, rfl, rv, ru⟩ := reps_2 r
    exact ⟨i, j, by rw [rep_int.mp rv, rep_int.mp ru], OkD.now h S (rep_int.mpr rfl)⟩
theorem bl_int : BlOk X (.type "int") fInt1 := by
  refine ⟨_, call_int1, ?_⟩
  intro W σ m p H st ds vs Q S r h
  match ds, h with
  | [.int i], h =>
    obtain ⟨v, rfl, rv⟩ := reps_1 r
    exact .inl ⟨i, by rw [rep_int.mp rv], OkD.now h S (rep_int.mpr rfl)⟩
  | [.bl k], h =>
    obtain ⟨v, rfl, rv⟩ := reps_1 r
    exact .inr ⟨k, by rw [rep_bl.mp rv], OkD.now h S (rep_int.mpr rfl)⟩
theorem bl_str : BlOk X (.type "str") fStr1 := by
  refine ⟨_, call_str_int, ?_⟩
  intro W σ m p H st ds vs Q S r h
  match ds, h with
  | [.int i], h =>
    obtain ⟨v, rfl, rv⟩ := reps_1 r
    by_cases z : i.natAbs.log2 < 1920
    · simp only [fStr1, if_pos z] at h
      exact ⟨i, by rw [rep_int.mp rv], z, OkD.now h S (rep_str.mpr rfl)⟩
    · simp only [fStr1, if_neg z] at h; exact h.elim
theorem bl_tuple : BlOk X (.type "tuple") fTuple := by
  refine ⟨_, call_tuple_of, ?_⟩
  intro W σ m p H st ds vs Q S r h
  match ds, h with
  | [d], h =>
    obtain ⟨v, rfl, rv⟩ := reps_1 r
    cases q : seqv st d with
    | none => simp only [fTuple, q] at h; exact h.elim
    | some ys =>
      simp only [fTuple, q] at h
      have key := fun (a : Addr) (ws : List V) (e : v = .ref a) (h1 : SqL X.K H a ws) (h2 : Reps (gn X) m p H ys ws) =>
        (show ∃ a ys, [v] = [V.ref a] ∧ ((SqL X.K H a ys ∧ ∀ l, H l = none → Q (.ref l) (upd H l (.tup ys))) ∨ (SqT X.K H a ys ∧ Q (.ref a) H)) from ⟨a, ws, by rw [e], .inl ⟨h1, newT h S h2⟩⟩)
      cases d with
      | tup zs =>
        obtain ⟨a, ws, rfl, h1, h2⟩ := rep_tup.mp rv
        simp only [seqv, Option.some.injEq] at q
        subst q
        exact ⟨a, ws, rfl, .inr ⟨Fz.sqT h1, OkD.now h S rv⟩⟩
      | fl zs => obtain ⟨a, ws, e, h1, h2⟩ := lstv_rep S rv q; exact key a ws e h1 h2
      | rl zs => obtain ⟨a, ws, e, h1, h2⟩ := lstv_rep S rv q; exact key a ws e h1 h2
      | ref n => obtain ⟨a, ws, e, h1, h2⟩ := lstv_rep S rv q; exact key a ws e h1 h2
      | _ => simp [seqv, lstv, lsts] at q
theorem bl_list (own : Bool) : BlOk X (.type "list") (fList own) := by
  refine ⟨_, call_list_of, ?_⟩
  intro W σ m p H st ds vs Q S r h
  match ds, h with
  | [d], h =>
    obtain ⟨v, rfl, rv⟩ := reps_1 r
    cases q : seqv st d with
    | none => simp only [fList, q] at h; exact h.elim
    | some ys =>
      simp only [fList, q] at h
      obtain ⟨a, ws, rfl, h1, h2⟩ := seqv_rep S rv q
      exact ⟨a, ws, rfl, h1, newL h S h2⟩
theorem bl_max (hc : X.calm = true) : BlOk X (.builtin "max") fMaxL := by
  refine ⟨_, cr_max hc, ?_⟩
  intro W σ m p H st ds vs Q S r h
  match ds, h with
  | [d], h =>
    obtain ⟨v, rfl, rv⟩ := reps_1 r
    cases q : (lstv st d).bind intsD with
    | none => simp only [fMaxL, q] at h; exact h.elim
    | some ns =>
      obtain ⟨ys, q1, q2⟩ := Option.bind_eq_some_iff.mp q
      obtain ⟨a, ws, rfl, h1, h2⟩ := lstv_rep S rv q1
      have e := intsD_rep h2 q2
      subst e
      by_cases z : ns ≠ []
      · simp only [fMaxL, q, if_pos z] at h
        refine ⟨a, ns, rfl, h1, List.length_pos_iff.mpr z, fun k hk hy => ?_⟩
        obtain ⟨g1, g2⟩ := maxI_ok z
        have e : k = maxI ns := Int.le_antisymm (g2 k hk) (hy _ g1)
        rw [e]
        exact OkD.now h S (rep_int.mpr rfl)
      · simp only [fMaxL, q, if_neg z] at h; exact h.elim
theorem bl_min (hc : X.calm = true) : BlOk X (.builtin "min") fMinL := by
  refine ⟨_, cr_min hc, ?_⟩
  intro W σ m p H st ds vs Q S r h
  match ds, h with
  | [d], h =>
    obtain ⟨v, rfl, rv⟩ := reps_1 r
    cases q : (lstv st d).bind intsD with
    | none => simp only [fMinL, q] at h; exact h.elim
    | some ns =>
      obtain ⟨ys, q1, q2⟩ := Option.bind_eq_some_iff.mp q
      obtain ⟨a, ws, rfl, h1, h2⟩ := lstv_rep S rv q1
      have e := intsD_rep h2 q2
      subst e
      by_cases z : ns ≠ []
      · simp only [fMinL, q, if_pos z] at h
        refine ⟨a, ns, rfl, h1, List.length_pos_iff.mpr z, fun k hk hy => ?_⟩
        obtain ⟨g1, g2⟩ := minI_ok z
        have e : k = minI ns := Int.le_antisymm (hy _ g1) (g2 k hk)
        rw [e]
        exact OkD.now h S (rep_int.mpr rfl)
      · simp only [fMinL, q, if_neg z] at h; exact h.elim
theorem bl_sum (hc : X.calm = true) : BlOk X (.builtin "sum") fSum := by
  refine ⟨_, cr_sum hc, ?_⟩
  intro W σ m p H st ds vs Q S r h
  match ds, h with
  | [d], h =>
    obtain ⟨v, rfl, rv⟩ := reps_1 r
    cases q : (lstv st d).bind intsD with
    | none => simp only [fSum, q] at h; exact h.elim
    | some ns =>
      simp only [fSum, q] at h
      obtain ⟨ys, q1, q2⟩ := Option.bind_eq_some_iff.mp q
      obtain ⟨a, ws, rfl, h1, h2⟩ := lstv_rep S rv q1
      have e := intsD_rep h2 q2
      subst e
      exact ⟨a, ns, rfl, h1, OkD.now h S (rep_int.mpr rfl)⟩
theorem bl_all (hc : X.calm = true) : BlOk X (.builtin "all") fAll := by
  refine ⟨_, cr_all hc, ?_⟩
  intro W σ m p H st ds vs Q S r h
  match ds, h with
  | [d], h =>
    obtain ⟨v, rfl, rv⟩ := reps_1 r
    cases q : (lstv st d).bind blsD with
    | none => simp only [fAll, q] at h; exact h.elim
    | some ns =>
      simp only [fAll, q] at h
      obtain ⟨ys, q1, q2⟩ := Option.bind_eq_some_iff.mp q
      obtain ⟨a, ws, rfl, h1, h2⟩ := lstv_rep S rv q1
      have e := blsD_rep h2 q2
      subst e
      exact ⟨a, ns, rfl, h1, OkD.now h S (rep_bl.mpr rfl)⟩
theorem bl_any (hc : X.calm = true) : BlOk X (.builtin "any") fAny := by
  refine ⟨_, cr_any hc, ?_⟩
  intro W σ m p H st ds vs Q S r h
  match ds, h with
  | [d], h =>
    obtain ⟨v, rfl, rv⟩ := reps_1 r
    cases q : (lstv st d).bind blsD with
    | none => simp only [fAny, q] at h; exact h.elim
    | some ns =>
      simp only [fAny, q] at h
      obtain ⟨ys, q1, q2⟩ := Option.bind_eq_some_iff.mp q
      obtain ⟨a, ws, rfl, h1, h2⟩ := lstv_rep S rv q1
      have e := blsD_rep h2 q2
      subst e
      exact ⟨a, ns, rfl, h1, OkD.now h S (rep_bl.mpr rfl)⟩
end

/-! ## list(range(..)), tuple(range(..)) -/
def mLstRg (own : Bool) (c : IM) : EM := fun env st => (c env st).bind fun x st1 => if x.1.length ≤ 2 ^ 24 then mkL own x.1 st1 else .bad
def mTupRg (c : IM) : EM := fun env st => (c env st).bind fun x st1 => if x.1.length ≤ 2 ^ 24 then .ok (.tup x.1) st1 else .bad
section
variable {X : Cx} {W : WX} {xs : XSlot} {e e2 : Expr} {c c2 : EM} {p p2 pos pos2 : Pos}
theorem reps_rg {G : Gn} {m p : List Addr} {H : Hp} (a b : Int) : Reps G m p H (rangeD a (b - a).toNat) (rgV a b) := by
  unfold rangeD rgV
  have h : ∀ l : List Nat, Reps G m p H (l.map fun i => D.int (a + (i : Nat))) (l.map fun i => V.int (a + (i : Nat))) := by
    intro l
    induction l with
    | nil => exact reps_nil.mpr rfl
    | cons x l ih => exact reps_cons.mpr ⟨_, _, rfl, rep_int.mpr rfl, ih⟩
  exact h _
theorem me_listRg1 (own : Bool) (hc : X.calm = true) (h : ME X W xs e c) (hl : Gl X "list") (hlm : X.mg "list" = none) (hg : Gl X "range") (hm : X.mg "range" = none)
    (na : starEach [e] X.env = (false, eval e X.env) :: starEach [] X.env := by rfl) (nb : starEach [Expr.Call (.Name "range" p2) [e] [] pos2] X.env = (false, eval (Expr.Call (.Name "range" p2) [e] [] pos2) X.env) :: starEach [] X.env := by rfl) :
    ME X W xs (.Call (.Name "list" p) [.Call (.Name "range" p2) [e] [] pos2] [] pos) (mLstRg own (iRg1 c)) := by
  refine PEi (pe_listRg hc hl hlm (prg_1 hg hm h na) nb) fun σ H Q ⟨m, p, env, st, E, S, h⟩ => ⟨m, p, env, st, E, S, ?_⟩
  unfold mLstRg iRg1 at h
  cases q : c env st with
  | bad => rw [q] at h; exact h
  | exc _ _ _ => rw [q] at h; exact h
  | ok d st1 =>
    rw [q] at h
    intro v m1 H1 e1 s1 r1
    cases d with
    | int j =>
      simp only [Out.bind] at h
      by_cases z : -(2 ^ 62) ≤ j ∧ j < 2 ^ 62
      · simp only [if_pos z] at h
        by_cases y : (rangeD 0 j.toNat).length ≤ 2 ^ 24
        · simp only [if_pos y] at h
          refine ⟨j, rep_int.mp r1, ⟨by decide, by decide, z.1, z.2, ?_⟩, newL (OkD.ext h e1) s1 ?_⟩
          · have : (rangeD 0 j.toNat).length = j.toNat := by unfold rangeD; simp
            rw [Int.sub_zero]; omega
          · have := reps_rg (G := gn X) (m := m1) (p := p) (H := H1) 0 j
            rw [Int.sub_zero] at this
            exact this
        · simp only [if_neg y] at h; exact h.elim
      · simp only [if_neg z] at h; exact h.elim
    | _ => exact h.elim
end
end Mi

namespace Mi
open PySem L2

/-! ## methods of built-in types -/
structure MtOk (X : Cx) (id : String) (f : D → List D → Sto → Out D) : Prop where
  ok : ∃ r, MtR X id r ∧ ∀ (W : WX) (σ : L2.St) (m p : List Addr) (H : Hp) (st : Sto) (d : D) (v : V) (ds : List D) (vs : List V) (Q : VK), SR (gn X) m p H st → Rep (gn X) m p H d v → Reps (gn X) m p H ds vs → OkD (gn X) W m p H σ (f d ds st) Q → r v vs H Q
def isL (st : Sto) (d : D) : Bool := (lstv st d).isSome
def mBM (f : D → List D → Sto → Out D) (a : EM) (r : AM) : EM := fun env st => (a env st).bind fun x st1 => if isL st1 x = true then (r env st1).bind (f x) else .bad
section
variable {X : Cx} {W : WX} {xs : XSlot} {o e : Expr} {es : List Expr} {name : Str} {apos cpos : Pos} {id : String} {ca : EM} {r : AM} {f : D → List D → Sto → Out D}
theorem isL_ty {st : Sto} {m p : List Addr} {H : Hp} {d : D} {v : V} (S : SR (gn X) m p H st) (rv : Rep (gn X) m p H d v) (h : isL st d = true) : tyV X.K "list" v H := by
  obtain ⟨ys, q⟩ := Option.isSome_iff_exists.mp h
  obtain ⟨a, ws, rfl, h1, h2⟩ := lstv_rep S rv q
  exact .inl ⟨rfl, ws, h1⟩
theorem me_lm0 (slot : Slot "list" name id) (hty : typeOf (.builtin id) = pure (.type "method_descriptor")) (hm : MtOk X id f) (ho : ME X W xs o ca)
    (hbase : attributeBase o name X.env (eval o X.env) = eval o X.env := by rfl) (hline : (apos.endLine == cpos.line) = true := by rfl) : ME X W xs (.Call (.Attribute o name apos) [] [] cpos) (mBM f ca aNil) := by
  obtain ⟨rr, h1, h2⟩ := hm.ok
  refine PEi (pe_bm0 PySem.F.plainAttrs_list slot hty h1 ho hbase hline) fun σ H Q ⟨m, p, env, st, E, S, h⟩ => ⟨m, p, env, st, E, S, h.andD fun x st1 v m1 H1 e1 s1 r1 h3 => ?_⟩
  by_cases z : isL st1 x = true
  · rw [if_pos z] at h3
    exact ⟨isL_ty s1 r1 z, h2 W σ m1 p H1 st1 x v [] [] Q s1 r1 (reps_nil.mpr rfl) h3⟩
  · rw [if_neg z] at h3; exact h3.elim
theorem me_lm (slot : Slot "list" name id) (hty : typeOf (.builtin id) = pure (.type "method_descriptor")) (hm : MtOk X id f) (ho : ME X W xs o ca) (ha : MA X W xs (e :: es) r)
    (hbase : attributeBase o name X.env (eval o X.env) = eval o X.env := by rfl)
    (hfew : ((backTo cpos (starEach (e :: es) X.env)).all (fun x => !x.1) && (backToKw cpos (keywordEach [] X.env)).all (fun x => x.1.isSome)
      && decide ((e :: es).length + ([] : List Keyword).length + (if ([] : List Keyword).isEmpty then 0 else 1) < 30)) = true := by rfl)
    (hline : (apos.endLine == cpos.line) = true := by rfl) (hs : starEach (e :: es) X.env = (false, eval e X.env) :: starEach es X.env := by rfl) (hplain : (backTo cpos (starEach es X.env)).any (·.1) = false := by rfl) :
    ME X W xs (.Call (.Attribute o name apos) (e :: es) [] cpos) (mBM f ca r) := by
  obtain ⟨rr, h1, h2⟩ := hm.ok
  refine PEi (pe_bm PySem.F.plainAttrs_list slot hty h1 ho ha hbase hfew hline hs hplain) fun σ H Q ⟨m, p, env, st, E, S, h⟩ => ⟨m, p, env, st, E, S, h.andD fun x st1 v m1 H1 e1 s1 r1 h3 => ?_⟩
  by_cases z : isL st1 x = true
  · rw [if_pos z] at h3
    exact ⟨isL_ty s1 r1 z, m1, p, env, st1, E.ext e1, s1, h3.andA fun ds st2 vs m2 H2 e2 s2 r2 h4 => h2 W σ m2 p H2 st2 x v ds vs Q s2 (Rep.ext e2 _ _ r1) r2 h4⟩
  · rw [if_neg z] at h3; exact h3.elim
end
/-- a list of ours -/
def ourL (st : Sto) : D → Option (Nat × List D)
  | .ref n => match st[n]? with
    | some (.lst xs) => some (n, xs)
    | _ => none
  | _ => none
section
variable {G : Gn} {W : WX} {m p : List Addr} {H : Hp} {st : Sto} {d e : D} {v : V} {n : Nat} {xs ys : List D} {vs : List V} {σ : L2.St} {Q : VK}
theorem ourL_rep (S : SR G m p H st) (r : Rep G m p H d v) (h : ourL st d = some (n, xs)) : ∃ a vs, v = .ref a ∧ m[n]? = some a ∧ H a = some (.lst vs) ∧ Reps G m p H xs vs := by
  cases d with
  | ref k =>
    obtain ⟨a, e, h1⟩ := rep_ref.mp r
    obtain ⟨o, ho, hr⟩ := S.get h1
    simp only [ourL, ho] at h
    cases o with
    | lst ys =>
      simp only [Option.some.injEq, Prod.mk.injEq] at h
      obtain ⟨h4, h5⟩ := h
      subst h4; subst h5
      obtain ⟨vs, h2, h3⟩ := hr
      exact ⟨a, vs, e, h1, h2, h3⟩
    | dk _ => simp at h
    | dt _ => simp at h
    | ins _ _ => simp at h
  | _ => simp [ourL] at h
/-- our list changes -/
theorem SR.lchg {a : Addr} {ws : List V} (S : SR G m p H st) (hm : m[n]? = some a) (r : Reps G m p H ys ws) : SR G m p (upd H a (.lst ws)) (st.set n (.lst ys)) :=
  S.chg hm ⟨ws, upd_same, Reps.ext (Ext.chg (List.mem_of_getElem? hm)) _ _ r⟩
theorem OkD.chg {a : Addr} {ws : List V} (h : OkD G W m p H σ (.ok e (st.set n (.lst ys))) Q) (S : SR G m p H st) (hm : m[n]? = some a) (r : Reps G m p H ys ws) (re : Rep G m p H e v) : Q v (upd H a (.lst ws)) :=
  h v m _ (Ext.chg (List.mem_of_getElem? hm)) (S.lchg hm r) (Rep.ext (Ext.chg (List.mem_of_getElem? hm)) _ _ re)
end
def fAppend : D → List D → Sto → Out D
  | x, [y], st => match ourL st x with
    | some (n, xs) => if xs.length < sizeLine then .ok .non (st.set n (.lst (xs ++ [y]))) else .bad
    | none => .bad
  | _, _, _ => .bad
def fExtend : D → List D → Sto → Out D
  | x, [y], st => match ourL st x with
    | some (n, xs) => match y with
      | .tup ys => if xs.length + ys.length ≤ sizeLine then .ok .non (st.set n (.lst (xs ++ ys))) else .bad
      | y => match lsts st y with
        | some ys => if xs.length + ys.length ≤ sizeLine then .ok .non (st.set n (.lst (xs ++ ys))) else .bad
        | none => .bad
    | none => .bad
  | _, _, _ => .bad
def fPop : D → List D → Sto → Out D
  | x, [], st => match ourL st x with
    | some (n, xs) => match xs[xs.length - 1]? with
      | some y => .ok y (st.set n (.lst xs.dropLast))
      | none => .bad
    | none => .bad
  | x, [.int i], st => match ourL st x with
    | some (n, xs) => if -(2 ^ 63) ≤ i ∧ i < 2 ^ 63 then match seqIndex? i xs.length with
      | some k => match xs[k]? with
        | some y => .ok y (st.set n (.lst (xs.eraseIdx k)))
        | none => .bad
      | none => .bad else .bad
    | none => .bad
  | _, _, _ => .bad
def rExtendT (K : PySem.W.Frag) : V → List V → Hp → VK → Prop := fun x vs H Q => ∃ l b xs zs, x = .ref l ∧ vs = [.ref b] ∧ H l = some (.lst xs) ∧ SqT K H b zs ∧ xs.length + zs.length ≤ sizeLine ∧ Q .non (upd H l (.lst (xs ++ zs)))
section
variable {X : Cx}
theorem mtExtendT : MtR X "list.extend" (rExtendT X.K) := by
  intro pins s σ H x vs v us Q I rx rv h
  obtain ⟨l, b, xs, zs, rfl, rfl, hH, hB, hz, q⟩ := h
  cases rx
  obtain ⟨u, rfl, ru⟩ := rv.one
  cases ru
  obtain ⟨z, its, n, r, hl, e⟩ := I.lstM hH
  obtain ⟨its2, r2, ⟨o2, e2, c2, n2, d2⟩, z2⟩ := I.tuple hB
  have hl2 := r2.length
  have hsz : its.toArray.size + its2.toArray.size ≤ sizeLine := by rw [List.size_toArray, List.size_toArray]; omega
  have hlong : ¬ (!its.toArray.isEmpty && Builtin.List.listTooLong (its.toArray.size + its2.toArray.size)) = true := by
    rw [notLongL hsz, Bool.and_false]
    exact Bool.false_ne_true
  refine wpAny_call_entry PySem.F.slot_list_extend ⟨_, e, rfl⟩ PySem.F.entry_list_extend ?_ (PySem.F.args_list_extend_2 _ _)
  unfold Builtin.«list.extend»
  refine wpAny_bind (m := selfAndOne "list.extend" _) (wpAny_pure ?_)
  show wpAny _ _ (Builtin.List.listExtendWith (.ref l) (.ref b) .none) _ _ _
  unfold Builtin.List.listExtendWith
  refine wpAny_bind (wpAny_typeOf (T := "tuple") ⟨o2, e2, c2⟩ ?_)
  have ht : (Value.type "tuple" == Value.type "tuple") = true := by rfl
  rw [if_pos (by rw [ht]; simp)]
  refine wpAny_bind (PyProof.Rows.listItems_at e2 d2 ?_)
  refine wpAny_bind (PyProof.Rows.listItems_at e rfl ?_)
  rw [if_neg hlong]
  refine wpAny_bind (PyProof.Rows.listUpdate_at e rfl ?_ (by rw [List.size_toArray]; omega) (by rw [Array.size_append]; omega))
  refine wpAny_pure ⟨_, rfl, .non, _, I.lset (its' := its ++ its2) (t' := s.toks) hH e (by simp) (r.append r2) ?_, rfl, q⟩
  rw [List.length_append]
  omega
theorem mt_oAppend : MtOk X "list.append" fAppend := by
  refine ⟨_, mt_append, ?_⟩
  intro W σ m p H st d v ds vs Q S rv r h
  match ds, h with
  | [y], h =>
    obtain ⟨u, rfl, ru⟩ := reps_1 r
    cases q : ourL st d with
    | none => simp only [fAppend, q] at h; exact h.elim
    | some z =>
      obtain ⟨n, xs⟩ := z
      simp only [fAppend, q] at h
      obtain ⟨a, ws, rfl, h1, h2, h3⟩ := ourL_rep S rv q
      by_cases g : xs.length < sizeLine
      · rw [if_pos g] at h
        exact ⟨a, ws, u, rfl, rfl, h2, by rw [h3.length]; exact g, OkD.chg h S h1 (h3.append (.one ru)) (rep_non.mpr rfl)⟩
      · rw [if_neg g] at h; exact h.elim
theorem mt_oExtend : MtOk X "list.extend" fExtend := by
  refine ⟨_, MtR.or mt_extend mtExtendT, ?_⟩
  intro W σ m p H st d v ds vs Q S rv r h
  match ds, h with
  | [y], h =>
    obtain ⟨u, rfl, ru⟩ := reps_1 r
    cases q : ourL st d with
    | none => simp only [fExtend, q] at h; exact h.elim
    | some z =>
      obtain ⟨n, xs⟩ := z
      simp only [fExtend, q] at h
      obtain ⟨a, ws, rfl, h1, h2, h3⟩ := ourL_rep S rv q
      have key := fun (hx : OkD (gn X) W m p H σ (match lsts st y with
        | some ys => if xs.length + ys.length ≤ sizeLine then .ok .non (st.set n (.lst (xs ++ ys))) else .bad
        | none => .bad) Q) => (show rExtend (.ref a) [u] H Q by
          cases q2 : lsts st y with
          | none => rw [q2] at hx; exact hx.elim
          | some ys =>
            rw [q2] at hx
            by_cases g : xs.length + ys.length ≤ sizeLine
            · simp only [if_pos g] at hx
              obtain ⟨b, us, rfl, g2, g3⟩ := lsts_rep S ru q2
              exact ⟨a, b, ws, us, rfl, rfl, h2, g2, by rw [h3.length, g3.length]; exact g, OkD.chg hx S h1 (h3.append g3) (rep_non.mpr rfl)⟩
            · simp only [if_neg g] at hx; exact hx.elim)
      cases y with
      | tup ys =>
        by_cases g : xs.length + ys.length ≤ sizeLine
        · simp only [if_pos g] at h
          obtain ⟨b, us, rfl, g2, g3⟩ := rep_tup.mp ru
          exact .inr ⟨a, b, ws, us, rfl, rfl, h2, Fz.sqT g2, by rw [h3.length, g3.length]; exact g, OkD.chg h S h1 (h3.append g3) (rep_non.mpr rfl)⟩
        · simp only [if_neg g] at h; exact h.elim
      | _ => exact .inl (key h)
theorem Reps.dropLast {G : Gn} {m p : List Addr} {H : Hp} {ds : List D} {vs : List V} (r : Reps G m p H ds vs) : Reps G m p H ds.dropLast vs.dropLast := by
  rw [List.dropLast_eq_take, List.dropLast_eq_take, r.length]
  exact r.take _
theorem mt_oPop : MtOk X "list.pop" fPop := by
  refine ⟨_, MtR.or mt_pop mt_popAt, ?_⟩
  intro W σ m p H st d v ds vs Q S rv r h
  match ds, h with
  | [], h =>
    rw [reps_nil.mp r]
    cases q : ourL st d with
    | none => simp only [fPop, q] at h; exact h.elim
    | some z =>
      obtain ⟨n, xs⟩ := z
      simp only [fPop, q] at h
      obtain ⟨a, ws, rfl, h1, h2, h3⟩ := ourL_rep S rv q
      cases g : xs[xs.length - 1]? with
      | none => simp only [g] at h; exact h.elim
      | some y =>
        simp only [g] at h
        obtain ⟨u, g1, g2⟩ := h3.get g
        exact .inl ⟨a, ws, u, rfl, rfl, h2, by rw [h3.length]; exact g1, OkD.chg h S h1 h3.dropLast g2⟩
  | [.int i], h =>
    obtain ⟨u, rfl, ru⟩ := reps_1 r
    cases q : ourL st d with
    | none => simp only [fPop, q] at h; exact h.elim
    | some z =>
      obtain ⟨n, xs⟩ := z
      simp only [fPop, q] at h
      obtain ⟨a, ws, rfl, h1, h2, h3⟩ := ourL_rep S rv q
      by_cases gi : -(2 ^ 63) ≤ i ∧ i < 2 ^ 63
      · rw [if_pos gi] at h
        cases g0 : seqIndex? i xs.length with
        | none => simp only [g0] at h; exact h.elim
        | some k =>
          cases g : xs[k]? with
          | none => simp only [g0, g] at h; exact h.elim
          | some y =>
            simp only [g0, g] at h
            obtain ⟨u2, g1, g2⟩ := h3.get g
            exact .inr ⟨a, ws, i, k, u2, rfl, by rw [rep_int.mp ru], h2, gi.1, gi.2, by rw [h3.length]; exact g0, g1, OkD.chg h S h1 (h3.eraseIdx k) g2⟩
      · rw [if_neg gi] at h; exact h.elim
end

/-! ## targets that change things -/
def OkG (G : Gn) (xs : XSlot) (m p : List Addr) (H : Hp) (o : Option (En × Sto)) (Q : L2.St → Hp → Prop) : Prop := match o with
  | some (e, st) => ∀ σ' m' H', Ext m H m' H' → EnvR G m' p H' xs e σ' → SR G m' p H' st → Q σ' H'
  | none => False
theorem OkG.ext {G : Gn} {xs : XSlot} {m m1 p : List Addr} {H H1 : Hp} {o : Option (En × Sto)} {Q : L2.St → Hp → Prop} (h : OkG G xs m p H o Q) (e : Ext m H m1 H1) : OkG G xs m1 p H1 o Q := by
  cases o with
  | none => exact h
  | some x => exact fun σ' m' H' e' => h σ' m' H' (e.trans e')
abbrev HM := D → En → Sto → Option (En × Sto)
abbrev HMs := List D → En → Sto → Option (En × Sto)
def Out.opt {α : Type} (o : Out α) (k : α → Sto → Option (En × Sto)) : Option (En × Sto) := match o with
  | .ok a st => k a st
  | _ => none
theorem OkG.andD {G : Gn} {W : WX} {xs : XSlot} {m p : List Addr} {H : Hp} {σ : L2.St} {o : Out D} {k : D → Sto → Option (En × Sto)} {Q : L2.St → Hp → Prop} {P : VK} (h : OkG G xs m p H (o.opt k) Q)
    (hp : ∀ d st1 v m1 H1, Ext m H m1 H1 → SR G m1 p H1 st1 → Rep G m1 p H1 d v → OkG G xs m1 p H1 (k d st1) Q → P v H1) : OkD G W m p H σ o P := by
  cases o with
  | ok d st => exact fun v m1 H1 e s r => hp d st v m1 H1 e s r (OkG.ext h e)
  | exc x a st => exact h.elim
  | bad => exact h
def MH (X : Cx) (W : WX) (xs : XSlot) (tg : Expr) (g : HM) : Prop := ∃ t, PG X tg t ∧ ∀ σ H (Q : L2.St → Hp → Prop) m p env st d v, EnvR (gn X) m p H xs env σ → SR (gn X) m p H st → Rep (gn X) m p H d v → OkG (gn X) xs m p H (g d env st) Q → t v σ H Q
def MHs (X : Cx) (W : WX) (xs : XSlot) (tg : List Expr) (g : HMs) : Prop := ∃ t, PGs X tg t ∧ ∀ σ H (Q : L2.St → Hp → Prop) m p env st d v, EnvR (gn X) m p H xs env σ → SR (gn X) m p H st → Reps (gn X) m p H d v → OkG (gn X) xs m p H (g d env st) Q → t v σ H Q
def hName (i : Nat) : HM := fun d e st => some (e.set i (some d), st)
def hsNil : HMs := fun ds e st => match ds with
  | [] => some (e, st)
  | _ => none
def hsCons (g : HM) (r : HMs) : HMs := fun ds e st => match ds with
  | d :: ds => (g d e st).bind fun x => r ds x.1 x.2
  | [] => none
def hTup (n : Nat) (g : HMs) : HM := fun d e st => match d with
  | .tup ds => if ds.length = n then g ds e st else none
  | _ => none
def putD {κ : Type} [DecidableEq κ] : List (κ × D) → κ → D → List (κ × D)
  | [], k, d => [(k, d)]
  | (j, e) :: r, k, d => if j = k then (j, d) :: r else (j, e) :: putD r k d
def setD : D → D → D → Sto → Option Sto
  | .ref n, i, d, st => match st[n]? with
    | some (.lst xs) => match i with
      | .int k => (ixN xs.length k).map fun j => st.set n (.lst (xs.set j d))
      | _ => none
    | _ => none
  | _, _, _, _ => none
/-- o[i] = .. -/
def hSub (ca ci : EM) : HM := fun d env st => (ca env st).opt fun x st1 => (ci env st1).opt fun i st2 => (setD x i d st2).map fun st3 => (env, st3)
section
variable {X : Cx} {W : WX} {xs : XSlot} {a i e : Expr} {es : List Expr} {pos : Pos} {ca ci : EM} {g : HM} {gs : HMs}
theorem mh_name (j : Nat) {x : Str} (hN : X.N.Nodup) (hq : ∀ q, xs ≠ some (j, q) := by intro q z; cases z) (hi : X.N[j]? = some x := by rfl) (hx : Loc X.env.scope x := by first | exact .inl rfl | exact .inr rfl)
    (hf : X.fn x = true ∨ X.env.scope.names.lookup x = some .local := by first | exact .inl rfl | exact .inr rfl) : MH X W xs (.Name x pos) (hName j) :=
  ⟨_, pg_name hN hi hx hf, fun σ H Q m p env st d v E S r z => z _ m H Ext.refl (E.set hq r) S⟩
theorem mhs_nil : MHs X W xs [] hsNil := ⟨_, pgs_nil, fun σ H Q m p env st d v E S r z => by
  cases d with
  | nil => exact ⟨reps_nil.mp r, z _ m H Ext.refl E S⟩
  | cons _ _ => exact z.elim⟩
theorem mhs_cons (h1 : MH X W xs e g) (h2 : MHs X W xs es gs) (hs : (assignEach (e :: es) X.env).map (·.2) = assign e X.env :: (assignEach es X.env).map (·.2) := by rfl) : MHs X W xs (e :: es) (hsCons g gs) := by
  obtain ⟨t1, p1, q1⟩ := h1
  obtain ⟨t2, p2, q2⟩ := h2
  refine ⟨_, pgs_cons p1 p2 hs, fun σ H Q m p env st d v E S r z => ?_⟩
  cases d with
  | nil => exact z.elim
  | cons d ds =>
    obtain ⟨u, us, rfl, r1, r2⟩ := reps_cons.mp r
    refine ⟨u, us, rfl, q1 σ H _ m p env st d u E S r1 ?_⟩
    unfold hsCons at z
    cases q : g d env st with
    | none => simp only [q] at z; exact z.elim
    | some x =>
      simp only [q, Option.bind_some] at z
      exact fun σ' m' H' e' E' S' => q2 σ' H' Q m' p x.1 x.2 ds us E' S' (Reps.ext e' _ _ r2) (OkG.ext z e')
theorem mh_tup {k n : Nat} (hc : X.calm = true) (h : MHs X W xs es gs) (hn : (assignEach es X.env).length = n := by rfl) (hst : (assignEach es X.env).findIdx? (·.1) = none := by rfl) : MH X W xs (.Tuple es k pos) (hTup n gs) := by
  obtain ⟨t1, p1, q1⟩ := h
  refine ⟨_, pg_tup hc p1 hn hst, fun σ H Q m p env st d v E S r z => ?_⟩
  cases d with
  | tup ds =>
    obtain ⟨a, vs, rfl, h1, h2⟩ := rep_tup.mp r
    simp only [hTup] at z
    by_cases y : ds.length = n
    · rw [if_pos y] at z
      exact ⟨a, vs, rfl, Fz.sqT h1, by rw [h2.length]; exact y, q1 σ H Q m p env st ds vs E S h2 z⟩
    · rw [if_neg y] at z; exact z.elim
  | _ => exact z.elim
theorem mh_sub (ha : ME X W xs a ca) (hi : ME X W xs i ci) (hs : ∀ v, assign (.Subscript a i pos) X.env v = (do
      let ov ← holding [v] (eval a X.env)
      let iv ← holding [v, ov] (eval i X.env)
      standAt pos
      holding [v, ov, iv] (setItem ov iv v)
      release [v, ov, iv] []) := by intro _; rfl) : MH X W xs (.Subscript a i pos) (hSub ca ci) := by
  refine ⟨_, pg_sub ha hi set_list hs, fun σ H Q m p env st d v E S r z => ⟨m, p, env, st, E, S, OkG.andD (xs := xs) (Q := Q) z fun x st1 o m1 H1 e1 s1 r1 z1 => ⟨m1, p, env, st1, E.ext e1, s1, z1.andD fun k st2 u m2 H2 e2 s2 r2 z2 => ?_⟩⟩⟩
  have rx := Rep.ext e2 _ _ r1
  have rd := Rep.ext (e1.trans e2) _ _ r
  cases x with
  | ref n =>
    obtain ⟨ad, rfl, h1⟩ := rep_ref.mp rx
    cases q : st2[n]? with
    | none => simp only [setD, q] at z2; exact z2.elim
    | some o =>
      cases o with
      | lst ys =>
        simp only [setD, q] at z2
        obtain ⟨ws, h2, h3⟩ := s2.ob n ad _ h1 q
        cases k with
        | int k =>
          cases q2 : ixN ys.length k with
          | none => simp only [q2] at z2; exact z2.elim
          | some j =>
            simp only [q2, Option.map_some] at z2
            refine ⟨ad, ws, k, j, rfl, rep_int.mp r2, h2, by rw [h3.length]; exact q2, ?_⟩
            exact z2 σ m2 _ (Ext.chg (List.mem_of_getElem? h1)) ((E.ext (e1.trans e2)).ext (Ext.chg (List.mem_of_getElem? h1))) (s2.lchg h1 (h3.set rd))
        | _ => exact z2.elim
      | dk _ => simp only [setD, q] at z2; exact z2.elim
      | dt _ => simp only [setD, q] at z2; exact z2.elim
      | ins _ _ => simp only [setD, q] at z2; exact z2.elim
  | _ => exact z2.elim
end
/-- any target -/
def sAsgH (g : HM) (c : EM) : SM := fun e st => (c e st).toS e fun d st1 => match g d e st1 with
  | some (e1, st2) => .nx e1 st2
  | none => .bad
section
variable {X : Cx} {W : WX} {xs : XSlot} {e : Expr} {c : EM} {pos : Pos} {g : HM}
theorem ms_asgH {tg : Expr} (h : ME X W xs e c) (hg : MH X W xs tg g) (hs : swapsWithSole [tg] e pos.line X.env = pure false := by rfl) (hw : swappedStores [tg] e X.env = pure none := by rfl)
    (h1 : (assignEach [tg] X.env).map (·.2) = [assign tg X.env] := by rfl) : MS X W xs (.Assign [tg] e pos) (sAsgH g c) := by
  obtain ⟨t, p1, q1⟩ := hg
  refine PSi (ps_asg h p1 hs hw h1) fun Dn σ H ⟨m, p, env, sto, E, S, h⟩ => ⟨m, p, env, sto, E, S, h.andD E fun d st1 v m1 H1 e1 s1 r1 h1 => ?_⟩
  refine q1 σ H1 _ m1 p env st1 d v (E.ext e1) s1 r1 ?_
  cases q : g d env st1 with
  | none => simp only [q] at h1; exact h1.elim
  | some x =>
    obtain ⟨a, b⟩ := x
    simp only [q] at h1
    exact h1
end

/-! ## name op= e, o[i] op= e -/
def VIp (G : Gn) (r : TIp) (f : D → D → Sto → Out D) : Prop :=
  ∀ (W : WX) (σ : L2.St) (m p : List Addr) (H : Hp) (st : Sto) (x y : D) (v u : V) (Q : VK), SR G m p H st → Rep G m p H x v → Rep G m p H y u → OkD G W m p H σ (f x y st) Q → r v u H Q
structure IpOk (X : Cx) (op : Operator) (f : D → D → Sto → Out D) : Prop where
  ok : ∃ r, PIp X op r ∧ VIp (gn X) r f
def sAug (i : Nat) (c : EM) (f : D → D → Sto → Out D) : SM := fun e st => match e[i]? with
  | some (some x) => (c e st).toS e fun y st1 => (f x y st1).toS e fun z st2 => .nx (e.set i (some z)) st2
  | _ => .bad
section
variable {X : Cx} {W : WX} {xs : XSlot} {e a i : Expr} {c ca ci : EM} {pos px tpos : Pos} {op : Operator} {f : D → D → Sto → Out D}
theorem ip_add : IpOk X .Add (fInt fun i j => .int (i + j)) := ⟨_, iop_add, vop_int fun _ _ _ _ _ => rep_int.mpr rfl⟩
theorem ip_sub : IpOk X .Sub (fInt fun i j => .int (i - j)) := ⟨_, iop_sub, vop_int fun _ _ _ _ _ => rep_int.mpr rfl⟩
theorem ms_aug (j : Nat) {x : Str} (hN : X.N.Nodup) (ho : IpOk X op f) (he : ME X W xs e c) (hq : ∀ q, xs ≠ some (j, q) := by intro q z; cases z) (hi : X.N[j]? = some x := by rfl) (hx : Loc X.env.scope x := by first | exact .inl rfl | exact .inr rfl)
    (hf : X.fn x = true ∨ X.env.scope.names.lookup x = some .local := by first | exact .inl rfl | exact .inr rfl) : MS X W xs (.AugAssign (.Name x px) op e pos) (sAug j c f) := by
  obtain ⟨r, h1, h2⟩ := ho.ok
  refine PSi (ps_aug hN hi hx he h1 hf) fun Dn σ H ⟨m, p, env, sto, E, S, h⟩ => ?_
  unfold sAug at h
  cases q : env[j]? with
  | none => rw [q] at h; exact h.elim
  | some o =>
    cases o with
    | none => rw [q] at h; exact h.elim
    | some x =>
      rw [q] at h
      obtain ⟨v, e1, rx⟩ := E.get q hq
      refine ⟨v, e1, m, p, env, sto, E, S, OkS.andD h E fun y st1 u m1 H1 x1 s1 r1 g1 => ?_⟩
      refine h2 W σ m1 p H1 st1 x y v u _ s1 (Rep.ext x1 _ _ rx) r1 (g1.andD (E.ext x1) fun z st2 w m2 H2 x2 s2 r2 g2 => ?_)
      exact OkS.nowN g2 ((E.ext (x1.trans x2)).set hq r2) s2
def getD1 : D → D → Sto → Out D := fIx
def sAugS (ca ci c : EM) (f : D → D → Sto → Out D) : SM := fun e st => (ca e st).toS e fun x st1 => (ci e st1).toS e fun i st2 => (fIx x i st2).toS e fun old st3 => (c e st3).toS e fun y st4 => (f old y st4).toS e fun z st5 => match setD x i z st5 with
  | some st6 => .nx e st6
  | none => .bad
end
end Mi

namespace Mi
open PySem

/-! ## enumerate(tuple) -/
theorem newEnumT (l : Addr) (items : Array Value) :
    Meets (Builtin.«enumerate.__new__» ⟨[.type "enumerate", .ref l], []⟩) (fun _ R s => s.heap.IsTuple l items ∧
      R (.ok (.ret (.ref (s.heap.push { cls := .type "tuple_iterator", data := .fields #[.ref l, .int 0 0] }).objs.size)))
        { s with heap := (s.heap.push { cls := .type "tuple_iterator", data := .fields #[.ref l, .int 0 0] }).push { cls := .type "enumerate", data := .fields #[.none, .bool false, .ref s.heap.objs.size, rawInt 0, .none, .none] } }) :=
  .of_wp fun prog w A R s h => by
    obtain ⟨hp, g, d, tk, os⟩ := s; obtain ⟨hl, h⟩ := h
    have hsub := sub_enumerate
    have hL : Heap.IsTuple (Shared.heap ⟨hp, g, d, tk, os⟩) l items := hl
    wp_walk
    refine wpAny_stack_any fun st => wpAny_pure ?_
    split
    · rename_i c _ _ _ _ _
      cases (c == Value.type "enumerate")
      · wp_walk using wpAny_pyIter_tuple hL
        exact ⟨_, rfl, h⟩
      · wp_walk using wpAny_pyIter_tuple hL
        exact ⟨_, rfl, h⟩
    · wp_walk using wpAny_pyIter_tuple hL
      exact ⟨_, rfl, h⟩
section
variable {prog : Program} {w : World} {A : Around} {E : Value → Shared → Prop} {s : Shared}
theorem enumT_call {l : Addr} {items : Array Value} {Q : Value → Shared → Prop} (hL : s.heap.IsTuple l items)
    (h : ∀ h', IsEnum h' (s.heap.objs.size + 1) s.heap.objs.size 0 .none → h'.IsTupleIter s.heap.objs.size l 0 → h'.objs.size = s.heap.objs.size + 2 →
      (∀ b o, s.heap.get? b = some o → h'.get? b = some o) → Q (.ref (s.heap.objs.size + 1)) { s with heap := h' }) :
    wpAny (model prog w) A (call (.type "enumerate") [.ref l]) Q E s := by
  refine callType_new F.called_enumerate (by decide) (F.typeCall_enumerate_1 _) (F.newCall_enumerate_1 _) (fun obj => F.args_object_init_2 obj _) F.entry_enumerate_new
    (newEnumT l items) ⟨hL, ?_⟩
  have z : (s.heap.push { cls := .type "tuple_iterator", data := .fields #[.ref l, .int 0 0] }).objs.size = s.heap.objs.size + 1 := Heap.size_push ..
  show _ ∧ _
  rw [z]
  have he := Heap.get?_push_size (s.heap.push { cls := .type "tuple_iterator", data := .fields #[.ref l, .int 0 0] })
    (o := { cls := .type "enumerate", data := .fields #[.none, .bool false, .ref s.heap.objs.size, rawInt 0, .none, .none] }) rfl
  rw [z] at he
  exact ⟨⟨_, he, rfl⟩, h _ he ⟨_, Heap.get?_push_of_some _ (Heap.get?_push_size _ rfl), rfl, rfl⟩ (by rw [Heap.size_push, z]) fun b o x => Heap.get?_push_of_some _ (Heap.get?_push_of_some _ x)⟩
/-- the draws of a tuple's iterator -/
theorem drawsT {it l : Addr} {items : Array Value} (hh : A.handled = none) (hne : l ≠ it) : Draws prog w A.in1 it [it, l] items.size (fun i x => items[i]? = some x) (fun i h => h.IsTupleIter it l i ∧ h.IsTuple l items) where
  live := fun i h st => let ⟨⟨o, ho, _⟩, _⟩ := st; ⟨o, ho⟩
  frame := fun i h h' st k => ⟨let ⟨⟨o, ho, r⟩, _⟩ := st; ⟨o, k it (by simp) o ho, r⟩, let ⟨_, ⟨o, ho, r⟩⟩ := st; ⟨o, k l (by simp) o ho, r⟩⟩
  item := fun i s Q E hi st hQ => by
    have hx : items[i]? = some items[i] := Array.getElem?_eq_getElem hi
    refine RZ.nextOf_tuple_item st.1 st.2 hx fun h' st' sb => ?_
    obtain ⟨o, ho, r⟩ := st.2
    exact hQ _ h' s.toks hx ⟨st', o, (sb.2 l hne).trans ho, r⟩ sb
  done := fun s Q E st hE => RZ.nextOf_tuple_end hh st.1 st.2 (by simp) hE
theorem drawsEnd {it l : Addr} {items : Array Value} {n : Nat} (hh : A.handled = none) (hn : items[n]? = none) : Draws prog w A.in1 it [it, l] n (fun _ _ => True) (fun i h => i = n ∧ h.IsTupleIter it l i ∧ h.IsTuple l items) where
  live := fun i h st => let ⟨_, ⟨o, ho, _⟩, _⟩ := st; ⟨o, ho⟩
  frame := fun i h h' st k => ⟨st.1, let ⟨_, ⟨o, ho, r⟩, _⟩ := st; ⟨o, k it (by simp) o ho, r⟩, let ⟨_, _, ⟨o, ho, r⟩⟩ := st; ⟨o, k l (by simp) o ho, r⟩⟩
  item := fun i s Q E hi st hQ => absurd st.1 (Nat.ne_of_lt hi)
  done := fun s Q E st hE => RZ.nextOf_tuple_end hh st.2.1 st.2.2 hn hE
end
end Mi
namespace Mi
open PySem L2
def IteT (K : PySem.W.Frag) (a : Addr) : It :=
  ⟨fun i H => ∃ (xs : List V) (x : V), SqT K H a xs ∧ xs[i]? = some x, fun i H v H' => ∃ T x, v = .ref T ∧ H T = none ∧ H' = upd H T (.tup [.int (i : Nat), x]) ∧ ∀ xs, SqT K H a xs → xs[i]? = some x, fun i H => ∃ xs : List V, SqT K H a xs ∧ xs.length ≤ i⟩
theorem turnEnumT {P : Program} {w : World} {K : PySem.W.Frag} {elts : List Expr} {kk : Nat} {tpos : Pos} (a e it : Addr) :
    Turn P w K (.Tuple elts kk tpos) (IteT K a) [e, it] e (fun i h => (∃ old, IsEnum h e it ((i : Nat) : Int) old) ∧ h.IsTupleIter it a i ∧ e ≠ it) where
  mem := by simp
  obj := fun i h st b hb => by
    obtain ⟨⟨old, he⟩, ⟨o, ho, hc, hd⟩, _⟩ := st
    rcases List.mem_cons.mp hb with z | z
    · rw [z]; exact ⟨_, he, fun v q => nomatch q⟩
    · rw [List.mem_singleton.mp z]; exact ⟨o, ho, fun v q => by rw [hd] at q; cases q⟩
  keep := fun i h h' st k => let ⟨⟨old, he⟩, ⟨o, ho, r⟩, hne⟩ := st; ⟨⟨old, k e (by simp) _ he⟩, ⟨o, k it (by simp) _ ho, r⟩, hne⟩
  item := by
    intro X hP hw hK hc i pins s σ H E I hf st hg
    subst hP hw hK
    obtain ⟨⟨old, he⟩, hit, hne⟩ := st
    obtain ⟨xs, x, hq, hx⟩ := hg
    obtain ⟨its, rv, pl, hz⟩ := I.tuple hq
    obtain ⟨u, hu, ru⟩ := rv.get hx
    have hlt : i < its.toArray.size := by
      rw [List.size_toArray]; exact (List.getElem?_eq_some_iff.mp hu).1
    have hel : e < s.heap.objs.size := Heap.lt_size he
    have hil : it < s.heap.objs.size := by obtain ⟨_, q, _⟩ := hit; exact Heap.lt_size q
    have nap : ∀ b ∈ [e, it], a ≠ b := by
      intro b hb z
      have h0 := (hf b hb).1
      obtain ⟨oa, hoa, hca, _⟩ := pl
      obtain ⟨_, ⟨oi, hoi, hci, hdi⟩⟩ := (⟨he, hit⟩ : _ ∧ _)
      rcases List.mem_cons.mp hb with y | y
      · rw [z, y, he] at hoa; cases hoa; exact absurd (Value.type.inj hca) (by decide)
      · rw [z, List.mem_singleton.mp y, hoi] at hoa; cases hoa; rw [hca] at hci; exact absurd (Value.type.inj hci) (by decide)
    have hai : a ≠ it := nap it (by simp)
    have hae : a ≠ e := nap e (by simp)
    refine wpAny_pyNext_enum_itemD (drawsT (l := a) (items := its.toArray) (I.ok.hd hc) hai) he ⟨hit, pl⟩ hlt hne (by simp only [List.mem_cons, List.not_mem_nil, or_false, not_or]; exact ⟨hne, Ne.symm hae⟩) fun y h' tk hy ho st' hT hsz hk => ?_
    have hyu : y = u := by
      have h9 : its.toArray[i]? = some u := by simpa using hu
      rw [h9] at hy; exact (Option.some.inj hy).symm
    subst hyu
    refine ⟨_, rfl, wpAny_letOwnedTupleGo_enum (s := { s with heap := h', toks := tk + 1 }) ho fun h'' he' sb => ?_⟩
    have hT2 : h''.get? s.heap.objs.size = some { cls := .type "tuple", data := .seq #[.int i tk, y] } := (sb.2 _ (Nat.ne_of_gt hel)).trans hT
    have new : ObjOk X.prog X.w (upd H s.heap.objs.size (.tup [.int (i : Nat), x])) h'' s.heap.objs.size (.tup [.int (i : Nat), x]) :=
      ⟨by show 2 ≤ sizeLine; decide, [.int i tk, y], .cons ⟨_, rfl⟩ (.cons ru .nil), ⟨_, hT2, rfl, _, rfl⟩⟩
    have I1 : Inv X pins σ (upd H s.heap.objs.size (.tup [.int (i : Nat), x])) { s with heap := h'', toks := tk + 1 } :=
      I.turnedNew (ch := [e, it]) (fun b ob hb q => (sb.2 b (fun z => hb (by simp [z]))).trans (hk b ob (fun z => hb (by simp [z])) (fun z => hb (by simp [z])) q)) hf (Nat.le_refl _) new
    obtain ⟨oi, hoi, ri⟩ := st'.1
    refine ⟨.ref s.heap.objs.size, _, I1, rfl, ⟨_, x, rfl, I.hok.fresh (Nat.le_refl _), rfl, fun ys hy => by rw [I.tuple_inj hy hq]; exact hx⟩, ⟨⟨y, ?_⟩, ⟨oi, (sb.2 it (Ne.symm hne)).trans hoi, ri⟩, hne⟩, fun b hb => ?_⟩
    · have e1 : ((i + 1 : Nat) : Int) = (i : Int) + 1 := by omega
      rw [e1]; exact he'
    · have hb' : b < s.heap.objs.size := by
        rcases List.mem_cons.mp hb with z | z
        · rw [z]; exact hel
        · rw [List.mem_singleton.mp z]; exact hil
      rw [upd_ne (Nat.ne_of_lt hb')]
      exact (hf b hb).1
  done := by
    intro X hP hw hK hc i pins s σ H E I hf st hg
    subst hP hw hK
    obtain ⟨⟨old, he⟩, hit, hne⟩ := st
    obtain ⟨xs, hq, hx⟩ := hg
    obtain ⟨its, rv, pl, hz⟩ := I.tuple hq
    obtain ⟨f0, f1, f2, f3, f4, f5⟩ := hf it (by simp)
    have hl := rv.length
    exact wpAny_pyNext_enum_endD (drawsEnd (I.ok.hd hc) (by simp; omega)) he ⟨rfl, hit, pl⟩ fun h' eb => ⟨rfl, I.turned (t' := s.toks) (fun b o hb q => eb b o hb q) f0 f1 f3 f4 f5⟩
  self := fun A i s Q E st h => let ⟨⟨_, he⟩, _⟩ := st; wpAny_pyIter_enum he h

/-! ## enumerate, zip -/
def enumD : Nat → List D → List D
  | _, [] => []
  | k, d :: ds => .tup [.int k, d] :: enumD (k + 1) ds
theorem enumD_get : ∀ (ds : List D) (k i : Nat), (enumD k ds)[i]? = (ds[i]?).map fun d => D.tup [.int ((k + i : Nat) : Int), d]
  | [], k, i => by simp [enumD]
  | d :: ds, k, 0 => by simp [enumD]
  | d :: ds, k, i + 1 => by
    rw [enumD, List.getElem?_cons_succ, List.getElem?_cons_succ, enumD_get ds (k + 1) i]
    have e : k + 1 + i = k + (i + 1) := by omega
    rw [e]
theorem enumD_length : ∀ (ds : List D) (k : Nat), (enumD k ds).length = ds.length
  | [], _ => rfl
  | d :: ds, k => by rw [enumD, List.length_cons, List.length_cons, enumD_length ds]
def zipD : List D → List D → List D
  | d :: ds, e :: es => .tup [d, e] :: zipD ds es
  | _, _ => []
theorem zipD_get : ∀ (ds es : List D) (i : Nat), (zipD ds es)[i]? = (ds[i]?).bind fun d => (es[i]?).map fun e => D.tup [d, e]
  | [], es, i => by simp [zipD]
  | d :: ds, [], i => by cases h : (d :: ds)[i]? <;> simp [zipD]
  | d :: ds, e :: es, 0 => by simp [zipD]
  | d :: ds, e :: es, i + 1 => by rw [zipD, List.getElem?_cons_succ, List.getElem?_cons_succ, List.getElem?_cons_succ, zipD_get ds es i]
theorem zipD_length : ∀ (ds es : List D), (zipD ds es).length = min ds.length es.length
  | [], es => by simp [zipD]
  | d :: ds, [] => by simp [zipD]
  | d :: ds, e :: es => by rw [zipD, List.length_cons, List.length_cons, List.length_cons, zipD_length ds es]; omega
section
variable {G : Gn} {m p : List Addr} {H : Hp} {a b : Addr} {d e v u : D} {ds es : List D}
theorem newPair {m1 p1 : List Addr} {H1 : Hp} {st1 : Sto} {T : Addr} {x y : D} {v u : V} (s : SR G m1 p1 H1 st1) (h : H1 T = none) (rx : Rep G m1 p1 H1 x v) (ry : Rep G m1 p1 H1 y u) :
    Ext m1 H1 m1 (upd H1 T (.tup [v, u])) ∧ SR G m1 p1 (upd H1 T (.tup [v, u])) st1 ∧ Rep G m1 p1 (upd H1 T (.tup [v, u])) (.tup [x, y]) (.ref T) :=
  ⟨Ext.new h, s.new h, rep_tup.mpr ⟨T, [v, u], rfl, .inl ⟨upd_same, fun z => s.live T z h, fun z => s.lp T z h⟩, reps_cons.mpr ⟨v, [u], rfl, Rep.ext (Ext.new h) _ _ rx, .one (Rep.ext (Ext.new h) _ _ ry)⟩⟩⟩
theorem ItOk.enumL {g : Grd} (h : ∀ m1 p1 H1 st1, (∀ d v, Rep G m p H d v → Rep G m1 p1 H1 d v) → SR G m1 p1 H1 st1 → grdOk g st1 → ∃ ws, SqL G.K H1 a ws ∧ Reps G m1 p1 H1 ds ws) : ItOk G m p H (Ite G.K a) (enumD 0 ds) g := by
  refine ⟨fun i m1 p1 H1 st1 e s z => ?_⟩
  obtain ⟨ws, h1, h2⟩ := h m1 p1 H1 st1 e s z
  refine ⟨fun hi => ⟨ws, h1, by rw [h2.length]; rw [enumD_length] at hi; exact hi⟩, fun d hd => ?_⟩
  rw [enumD_get, Option.map_eq_some_iff] at hd
  obtain ⟨d0, hd, rfl⟩ := hd
  obtain ⟨v, h3, h4⟩ := h2.get hd
  refine ⟨⟨ws, v, h1, h3⟩, fun x H2 y => ?_⟩
  obtain ⟨T, x0, rfl, hT, rfl, y⟩ := y
  have y2 := y ws h1
  rw [h3] at y2; cases y2
  rw [Nat.zero_add]
  exact newPair s hT (rep_int.mpr rfl) h4
theorem ItOk.enumT {g : Grd} (h : ∀ m1 p1 H1, (∀ d v, Rep G m p H d v → Rep G m1 p1 H1 d v) → ∃ ws, SqT G.K H1 a ws ∧ Reps G m1 p1 H1 ds ws) : ItOk G m p H (IteT G.K a) (enumD 0 ds) g := by
  refine ⟨fun i m1 p1 H1 st1 e s z => ?_⟩
  obtain ⟨ws, h1, h2⟩ := h m1 p1 H1 e
  refine ⟨fun hi => ⟨ws, h1, by rw [h2.length]; rw [enumD_length] at hi; exact hi⟩, fun d hd => ?_⟩
  rw [enumD_get, Option.map_eq_some_iff] at hd
  obtain ⟨d0, hd, rfl⟩ := hd
  obtain ⟨v, h3, h4⟩ := h2.get hd
  refine ⟨⟨ws, v, h1, h3⟩, fun x H2 y => ?_⟩
  obtain ⟨T, x0, rfl, hT, rfl, y⟩ := y
  have y2 := y ws h1
  rw [h3] at y2; cases y2
  rw [Nat.zero_add]
  exact newPair s hT (rep_int.mpr rfl) h4
end
def enumI (x : List D × Grd) : List D × Grd := (enumD 0 x.1, x.2)
def iEnum (c : EM) : IM := fun env st => (c env st).bind fun d st1 => (walkD d st1).bind fun x st2 => .ok (enumI x) st2
theorem walk_enum {G : Gn} {W : WX} {m p : List Addr} {H : Hp} {σ : L2.St} {st : Sto} {d : D} {v : V} {R : It → Hp → Prop} (S : SR G m p H st) (r : Rep G m p H d v) (h : OkI G W m p H σ ((walkD d st).bind fun x st2 => .ok (enumI x) st2) R) :
    (∃ a, v = .ref a ∧ (∃ xs, SqL G.K H a xs) ∧ R (Ite G.K a) H) ∨ (∃ a, v = .ref a ∧ (∃ xs, SqT G.K H a xs) ∧ R (IteT G.K a) H) := by
  cases d with
  | tup ds =>
    obtain ⟨a, vs, rfl, h1, h2⟩ := rep_tup.mp r
    refine .inr ⟨a, rfl, ⟨vs, Fz.sqT h1⟩, h _ m H Ext.refl S trivial (ItOk.enumT fun m1 p1 H1 k => ?_)⟩
    obtain ⟨a', ws, e, g1, g2⟩ := rep_tup.mp (k _ _ r)
    cases e
    exact ⟨ws, Fz.sqT g1, g2⟩
  | fl ds =>
    obtain ⟨a, vs, rfl, h1, h2⟩ := rep_fl.mp r
    refine .inl ⟨a, rfl, ⟨vs, SqL.of h1.1⟩, h _ m H Ext.refl S trivial (ItOk.enumL fun m1 p1 H1 st1 k _ _ => ?_)⟩
    obtain ⟨a', ws, e, g1, g2⟩ := rep_fl.mp (k _ _ r)
    cases e
    exact ⟨ws, SqL.of g1.1, g2⟩
  | rl ds =>
    obtain ⟨a, vs, rfl, h1, h2⟩ := rep_rl.mp r
    refine .inl ⟨a, rfl, ⟨vs, Fz.sqL h1⟩, h _ m H Ext.refl S trivial (ItOk.enumL fun m1 p1 H1 st1 k _ _ => ?_)⟩
    obtain ⟨a', ws, e, g1, g2⟩ := rep_rl.mp (k _ _ r)
    cases e
    exact ⟨ws, Fz.sqL g1, g2⟩
  | ref n =>
    obtain ⟨a, rfl, h1⟩ := rep_ref.mp r
    obtain ⟨o, ho, hr⟩ := S.get h1
    simp only [walkD, ho] at h
    cases o with
    | lst ys =>
      obtain ⟨vs, h2, h3⟩ := hr
      refine .inl ⟨a, rfl, ⟨vs, SqL.of h2⟩, h _ m H Ext.refl S ho (ItOk.enumL fun m1 p1 H1 st1 k s z => ?_)⟩
      obtain ⟨a', e, g0⟩ := rep_ref.mp (k _ _ r)
      cases e
      obtain ⟨ws, g1, g2⟩ := s.ob n a _ g0 z
      exact ⟨ws, SqL.of g1, g2⟩
    | dk _ => exact h.elim
    | dt _ => exact h.elim
    | ins _ _ => exact h.elim
  | _ => exact h.elim
theorem pi_enumA {X : Cx} {e : Expr} {ta : TA} {p pos tpos : Pos} {elts : List Expr} {kk : Nat} (hg : Gl X "enumerate") (hm : X.mg "enumerate" = none) (ha : PA X [e] ta) (hs : starEach [e] X.env = [(false, eval e X.env)]) :
    PI X (.Tuple elts kk tpos) (.Call (.Name "enumerate" p) [e] [] pos) (fun σ H R => ta σ H fun vs H1 => ∃ x, vs = [x] ∧ ((∃ a, x = .ref a ∧ (∃ xs, SqL X.K H1 a xs) ∧ R (Ite X.K a) H1) ∨ (∃ a, x = .ref a ∧ (∃ xs, SqT X.K H1 a xs) ∧ R (IteT X.K a) H1))) := by
  refine ⟨fun pins s σ H R I h => ?_⟩
  refine PyProof.Rows.Call_ (ld_blt I hg hm PyProof.Rows.boot_enumerate (PyProof.Rows.callWith_type1 (thn (ha.run pos pins s σ H _ I h) fun us s1 ⟨vs, H1, I1, r1, q1⟩ => ?_) hs rfl))
  obtain ⟨x, rfl, q1⟩ := q1
  obtain ⟨u, rfl, ru⟩ := vals1 r1
  have fin : ∀ {b : Addr}, b ∈ [s1.heap.objs.size + 1, s1.heap.objs.size] → FpOk X pins H1 b := fun {b} hb => by
    have hle : s1.heap.objs.size ≤ b := by
      rcases List.mem_cons.mp hb with z | z
      · rw [z]; exact Nat.le_add_right _ _
      · rw [List.mem_singleton.mp z]; exact Nat.le_refl _
    exact I1.fpOk hle (I1.hok.fresh hle)
  rcases q1 with ⟨a, rfl, ⟨xs, hq⟩, q⟩ | ⟨a, rfl, ⟨xs, hq⟩, q⟩
  · cases ru
    obtain ⟨its, rv, pl, hz⟩ := I1.list hq
    refine call_enumerate_list pl.isList fun h' he hit hsz hk => wpAny_pyIter_enum he ?_
    exact ⟨_, _, _, _, H1, rfl, I1.kept (t' := s1.toks) hk, turn_enum a _ _, ⟨⟨.none, he⟩, hit, Nat.succ_ne_self _⟩, fun b hb => fin hb, q⟩
  · cases ru
    obtain ⟨its, rv, pl, hz⟩ := I1.tuple hq
    refine enumT_call (show s1.heap.IsTuple a its.toArray from pl) fun h' he hit hsz hk => wpAny_pyIter_enum he ?_
    exact ⟨_, _, _, _, H1, rfl, I1.kept (t' := s1.toks) hk, turnEnumT a _ _, ⟨⟨.none, he⟩, hit, Nat.succ_ne_self _⟩, fun b hb => fin hb, q⟩
section
variable {X : Cx} {W : WX} {xs : XSlot} {e e2 : Expr} {c c2 : EM} {p' pos tpos : Pos} {elts : List Expr} {kk : Nat}
theorem mi_enum (h : ME X W xs e c) (hg : Gl X "enumerate") (hm : X.mg "enumerate" = none) (hs : starEach [e] X.env = [(false, eval e X.env)] := by rfl) :
    MI X W xs (.Tuple elts kk tpos) (.Call (.Name "enumerate" p') [e] [] pos) (iEnum c) :=
  ⟨_, pi_enumA hg hm (pa_cons h pa_nil hs) hs, fun σ H R m p env st E S hR => ⟨m, p, env, st, E, S, hR.andD fun d st1 v m1 H1 e1 s1 r1 h1 => ⟨v, rfl, walk_enum s1 r1 h1⟩⟩⟩

/-! zip of two lists or of two tuples -/
def zipI (d e : D) (st : Sto) : Out (List D × Grd) := match d, e with
  | .tup xs, .tup ys => .ok (zipD xs ys, none) st
  | .tup _, _ => .bad
  | _, .tup _ => .bad
  | d, e => match walkD d st, walkD e st with
    | .ok (xs, none) _, .ok (ys, g) _ => .ok (zipD xs ys, g) st
    | .ok (xs, g) _, .ok (ys, none) _ => .ok (zipD xs ys, g) st
    | _, _ => .bad
def iZip (c c2 : EM) : IM := fun env st => (c env st).bind fun d st1 => (c2 env st1).bind fun e st2 => zipI d e st2
end
section
variable {G : Gn} {m p : List Addr} {H : Hp} {a b : Addr} {ds es : List D}
theorem ItOk.zipL {g : Grd} (h : ∀ m1 p1 H1 st1, (∀ d v, Rep G m p H d v → Rep G m1 p1 H1 d v) → SR G m1 p1 H1 st1 → grdOk g st1 → (∃ ws, SqL G.K H1 a ws ∧ Reps G m1 p1 H1 ds ws) ∧ ∃ ws, SqL G.K H1 b ws ∧ Reps G m1 p1 H1 es ws) : ItOk G m p H (Itz G.K a b) (zipD ds es) g := by
  refine ⟨fun i m1 p1 H1 st1 e s z => ?_⟩
  obtain ⟨⟨ws, h1, h2⟩, us, g1, g2⟩ := h m1 p1 H1 st1 e s z
  refine ⟨fun hi => ⟨ws, us, h1, g1, by rw [h2.length, g2.length]; rw [zipD_length] at hi; omega⟩, fun d hd => ?_⟩
  rw [zipD_get, Option.bind_eq_some_iff] at hd
  obtain ⟨d0, hd, hd2⟩ := hd
  obtain ⟨d1, hd3, rfl⟩ := Option.map_eq_some_iff.mp hd2
  obtain ⟨v, h3, h4⟩ := h2.get hd
  obtain ⟨u, g3, g4⟩ := g2.get hd3
  refine ⟨⟨ws, us, v, u, h1, g1, h3, g3⟩, fun x H2 y => ?_⟩
  obtain ⟨T, x0, y0, rfl, hT, rfl, y1, y2⟩ := y
  have z1 := y1 ws h1
  have z2 := y2 us g1
  rw [h3] at z1; cases z1
  rw [g3] at z2; cases z2
  exact newPair s hT h4 g4
theorem ItOk.zipT {g : Grd} (h : ∀ m1 p1 H1, (∀ d v, Rep G m p H d v → Rep G m1 p1 H1 d v) → (∃ ws, SqT G.K H1 a ws ∧ Reps G m1 p1 H1 ds ws) ∧ ∃ ws, SqT G.K H1 b ws ∧ Reps G m1 p1 H1 es ws) : ItOk G m p H (RZ.ItzT G.K a b) (zipD ds es) g := by
  refine ⟨fun i m1 p1 H1 st1 e s z => ?_⟩
  obtain ⟨⟨ws, h1, h2⟩, us, g1, g2⟩ := h m1 p1 H1 e
  refine ⟨fun hi => ⟨ws, us, h1, g1, by rw [h2.length, g2.length]; rw [zipD_length] at hi; omega⟩, fun d hd => ?_⟩
  rw [zipD_get, Option.bind_eq_some_iff] at hd
  obtain ⟨d0, hd, hd2⟩ := hd
  obtain ⟨d1, hd3, rfl⟩ := Option.map_eq_some_iff.mp hd2
  obtain ⟨v, h3, h4⟩ := h2.get hd
  obtain ⟨u, g3, g4⟩ := g2.get hd3
  refine ⟨⟨ws, us, v, u, h1, g1, h3, g3⟩, fun x H2 y => ?_⟩
  obtain ⟨T, x0, y0, rfl, hT, rfl, y1, y2⟩ := y
  have z1 := y1 ws h1
  have z2 := y2 us g1
  rw [h3] at z1; cases z1
  rw [g3] at z2; cases z2
  exact newPair s hT h4 g4
/-- a walked list later -/
theorem walk_list {st : Sto} {d : D} {v : V} {xs : List D} {g : Grd} {st' : Sto} (S : SR G m p H st) (r : Rep G m p H d v) (h : walkD d st = .ok (xs, g) st') (hd : ∀ ys, d ≠ .tup ys) :
    st' = st ∧ grdOk g st ∧ ∃ a, v = .ref a ∧ (∃ ws, SqL G.K H a ws) ∧ ∀ m1 p1 H1 st1, (∀ d v, Rep G m p H d v → Rep G m1 p1 H1 d v) → SR G m1 p1 H1 st1 → grdOk g st1 → ∃ ws, SqL G.K H1 a ws ∧ Reps G m1 p1 H1 xs ws := by
  cases d with
  | tup ds => exact absurd rfl (hd ds)
  | fl ds =>
    simp only [walkD, Out.ok.injEq, Prod.mk.injEq] at h
    obtain ⟨⟨rfl, rfl⟩, rfl⟩ := h
    obtain ⟨a, vs, rfl, h1, h2⟩ := rep_fl.mp r
    refine ⟨rfl, trivial, a, rfl, ⟨vs, SqL.of h1.1⟩, fun m1 p1 H1 st1 k _ _ => ?_⟩
    obtain ⟨a', ws, e, g1, g2⟩ := rep_fl.mp (k _ _ r)
    cases e
    exact ⟨ws, SqL.of g1.1, g2⟩
  | rl ds =>
    simp only [walkD, Out.ok.injEq, Prod.mk.injEq] at h
    obtain ⟨⟨rfl, rfl⟩, rfl⟩ := h
    obtain ⟨a, vs, rfl, h1, h2⟩ := rep_rl.mp r
    refine ⟨rfl, trivial, a, rfl, ⟨vs, Fz.sqL h1⟩, fun m1 p1 H1 st1 k _ _ => ?_⟩
    obtain ⟨a', ws, e, g1, g2⟩ := rep_rl.mp (k _ _ r)
    cases e
    exact ⟨ws, Fz.sqL g1, g2⟩
  | ref n =>
    obtain ⟨a, rfl, h1⟩ := rep_ref.mp r
    obtain ⟨o, ho, hr⟩ := S.get h1
    simp only [walkD, ho] at h
    cases o with
    | lst ys =>
      simp only [Out.ok.injEq, Prod.mk.injEq] at h
      obtain ⟨⟨rfl, rfl⟩, rfl⟩ := h
      obtain ⟨vs, h2, h3⟩ := hr
      refine ⟨rfl, ho, a, rfl, ⟨vs, SqL.of h2⟩, fun m1 p1 H1 st1 k s z => ?_⟩
      obtain ⟨a', e, g0⟩ := rep_ref.mp (k _ _ r)
      cases e
      obtain ⟨ws, g1, g2⟩ := s.ob n a _ g0 z
      exact ⟨ws, SqL.of g1, g2⟩
    | dk _ => simp at h
    | dt _ => simp at h
    | ins _ _ => simp at h
  | _ => simp [walkD] at h
end
theorem walk_zip {G : Gn} {W : WX} {m p : List Addr} {H : Hp} {σ : L2.St} {st : Sto} {d e : D} {v u : V} {R : It → Hp → Prop} (S : SR G m p H st) (r : Rep G m p H d v) (r2 : Rep G m p H e u) (h : OkI G W m p H σ (zipI d e st) R) :
    ∃ a b xs ys, [v, u] = [V.ref a, V.ref b] ∧ ((SqL G.K H a xs ∧ SqL G.K H b ys ∧ R (Itz G.K a b) H) ∨ (SqT G.K H a xs ∧ SqT G.K H b ys ∧ R (RZ.ItzT G.K a b) H)) := by
  have key : (∀ ys, d ≠ .tup ys) → (∀ ys, e ≠ .tup ys) → OkI G W m p H σ (match walkD d st, walkD e st with
    | .ok (xs, none) _, .ok (ys, g) _ => .ok (zipD xs ys, g) st
    | .ok (xs, g) _, .ok (ys, none) _ => .ok (zipD xs ys, g) st
    | _, _ => .bad) R → ∃ a b xs ys, [v, u] = [V.ref a, V.ref b] ∧ ((SqL G.K H a xs ∧ SqL G.K H b ys ∧ R (Itz G.K a b) H) ∨ (SqT G.K H a xs ∧ SqT G.K H b ys ∧ R (RZ.ItzT G.K a b) H)) := by
    intro n1 n2 h
    cases q1 : walkD d st with
    | bad => rw [q1] at h; exact h.elim
    | exc _ _ _ => rw [q1] at h; exact h.elim
    | ok x st1 =>
      cases q2 : walkD e st with
      | bad => rw [q1, q2] at h; obtain ⟨x1, x2⟩ := x; cases x2 <;> exact h.elim
      | exc _ _ _ => rw [q1, q2] at h; obtain ⟨x1, x2⟩ := x; cases x2 <;> exact h.elim
      | ok y st2 =>
        obtain ⟨xs, g1⟩ := x
        obtain ⟨ys, g2⟩ := y
        rw [q1, q2] at h
        obtain ⟨_, k1, a, rfl, ⟨ws, w1⟩, f1⟩ := walk_list S r q1 n1
        obtain ⟨_, k2, b, rfl, ⟨us, w2⟩, f2⟩ := walk_list S r2 q2 n2
        refine ⟨a, b, ws, us, rfl, .inl ⟨w1, w2, ?_⟩⟩
        cases g1 with
        | none => exact h _ m H Ext.refl S k2 (ItOk.zipL fun m1 p1 H1 st1 k s z => ⟨f1 m1 p1 H1 st1 k s trivial, f2 m1 p1 H1 st1 k s z⟩)
        | some g1 =>
          cases g2 with
          | none => exact h _ m H Ext.refl S k1 (ItOk.zipL fun m1 p1 H1 st1 k s z => ⟨f1 m1 p1 H1 st1 k s z, f2 m1 p1 H1 st1 k s trivial⟩)
          | some g2 => exact h.elim
  by_cases n1 : ∃ ys, d = .tup ys
  · obtain ⟨xs, rfl⟩ := n1
    by_cases n2 : ∃ ys, e = .tup ys
    · obtain ⟨ys, rfl⟩ := n2
      obtain ⟨a, ws, rfl, h1, h2⟩ := rep_tup.mp r
      obtain ⟨b, us, rfl, g1, g2⟩ := rep_tup.mp r2
      refine ⟨a, b, ws, us, rfl, .inr ⟨Fz.sqT h1, Fz.sqT g1, h _ m H Ext.refl S trivial (ItOk.zipT fun m1 p1 H1 k => ⟨?_, ?_⟩)⟩⟩
      · obtain ⟨a', ws, e, g1, g2⟩ := rep_tup.mp (k _ _ r)
        cases e
        exact ⟨ws, Fz.sqT g1, g2⟩
      · obtain ⟨a', ws, e, g1, g2⟩ := rep_tup.mp (k _ _ r2)
        cases e
        exact ⟨ws, Fz.sqT g1, g2⟩
    · cases e <;> first | exact absurd ⟨_, rfl⟩ n2 | exact h.elim
  · have n1' : ∀ ys, d ≠ .tup ys := fun ys z => n1 ⟨ys, z⟩
    by_cases n2 : ∃ ys, e = .tup ys
    · obtain ⟨ys, rfl⟩ := n2
      cases d <;> first | exact absurd ⟨_, rfl⟩ n1 | exact h.elim
    · have n2' : ∀ ys, e ≠ .tup ys := fun ys z => n2 ⟨ys, z⟩
      refine key n1' n2' ?_
      cases d <;> cases e <;> first | exact absurd ⟨_, rfl⟩ n1 | exact absurd ⟨_, rfl⟩ n2 | exact h
section
variable {X : Cx} {W : WX} {xs : XSlot} {e e2 : Expr} {c c2 : EM} {p' pos tpos : Pos} {elts : List Expr} {kk : Nat}
theorem mi_zip (h : ME X W xs e c) (h2 : ME X W xs e2 c2) (hg : Gl X "zip") (hm : X.mg "zip" = none) (hs : starEach [e, e2] X.env = (false, eval e X.env) :: starEach [e2] X.env := by rfl) (hs2 : starEach [e2] X.env = (false, eval e2 X.env) :: starEach [] X.env := by rfl) (hpl : (backTo pos (starEach [e2] X.env)).any (·.1) = false := by rfl) :
    MI X W xs (.Tuple elts kk tpos) (.Call (.Name "zip" p') [e, e2] [] pos) (iZip c c2) :=
  ⟨_, RZ.pi_zipA hg hm (pa_cons h (pa_cons h2 pa_nil hs2) hs) hs hpl, fun σ H R m p env st E S hR => ⟨m, p, env, st, E, S, hR.andD fun d st1 v m1 H1 e1 s1 r1 h1 => ⟨m1, p, env, st1, E.ext e1, s1, h1.andD fun d2 st2 u m2 H2 e2 s2 r2 h2 => walk_zip s2 (Rep.ext e2 _ _ r1) r2 h2⟩⟩⟩
end
end Mi

namespace Mi
open PySem PySem.W PySem.Calls
/-! ## an own class of errors: def __init__(self, at): super().__init__('..'); self.at = at -/
/-- what the written part says of such a class: at C, its __init__ at f, its cell at cc -/
structure SupC (p : Program) (K : Frag) (C f : Addr) (name qual : Str) (params : Arguments) (body : List Stmt) (scope : Scope) (cc cda : Addr) (dV kV doc pm ct : Value) (an : Option Addr) : Prop where
  oe : L2.OexC K C
  fn : ∃ oc od osl, K.lookup f = some ⟨oc, od, .func (ksFn name qual params body scope dV kV doc pm an (.ref cda) ct cc), osl⟩
  cod : codeIn K (.ref cda) qual = true
  bd : ∃ msg p0 p1 p2 p3 j p4 p5 p6 p7 p8 p9, body = [.Expr (.Call (.Attribute (.Call (.Name "super" p0) [] [] p1) "__init__" p2) [.Constant (.str msg) j p3] [] p4) p5, .Assign [.Attribute (.Name "self" p6) "at" p7] (.Name "at" p8) p9] ∧
    ∃ pl : Sem Bool, ∀ L, eval (.Call (.Attribute (.Call (.Name "super" p0) [] [] p1) "__init__" p2) [.Constant (.str msg) j p3] [] p4) (ksEnv qual scope L f (.ref cda) cc) = (do
      let ov ← attributeBase (.Call (.Name "super" p0) [] [] p1) "__init__" (ksEnv qual scope L f (.ref cda) cc) (eval (.Call (.Name "super" p0) [] [] p1) (ksEnv qual scope L f (.ref cda) cc))
      standAt p2.atName
      let (f', first) ← holding [ov] (getMethod ov "__init__" pl)
      callWith p4 f' first (backTo p4 (starEach [.Constant (.str msg) j p3] (ksEnv qual scope L f (.ref cda) cc))) []) ∧
      interactive (ksEnv qual scope L f (.ref cda) cc) = false ∧
      swapsWith (.Call (.Attribute (.Call (.Name "super" p0) [] [] p1) "__init__" p2) [.Constant (.str msg) j p3] [] p4) none p5.line (ksEnv qual scope L f (.ref cda) cc) = pure false ∧
      swapsWith (.Name "at" p8) (some (.Attribute (.Name "self" p6) "at" p7)) p9.line (ksEnv qual scope L f (.ref cda) cc) = pure false
  hd : ∃ ar, (params.posonlyargs ++ params.args).head? = some ar ∧ ar.arg = "self"
  bn : ∀ e v : Value, bindArgs (ksFn name qual params body scope dV kV doc pm an (.ref cda) ct cc) ⟨[e, v], []⟩ = pure [(("self" : Str), e), (("at" : Str), v)]
  fil : ∃ ccl cdd vs ccs file tf, K.lookup cda = some ⟨ccl, cdd, .fields vs, ccs⟩ ∧ vs[2]? = some (.str file tf) ∧ ((p.main.file : Str) == file) = true
  cell : ∃ cl cld csl, K.lookup cc = some ⟨cl, cld, .cell (some (.ref C)), csl⟩
  cls : ∃ cd, clsIn K C = some cd
  sub : mroIn K C (.ref C) = some true
  opq : nsIn K cStatics "thirdparty.any" = some none
  sup : ks_superIn K C C "__init__" = some (some (.builtin "ValueError.__init__"))
  isV : subIn K (.ref C) (.type "ValueError") = some true
  noA : findIn K (.ref C) "at" = some none
  s1 : scope.names.lookup ("super" : Str) = some .globalImplicit
  s2 : scope.names.lookup ("__class__" : Str) = some .free
  s3 : scope.names.lookup ("self" : Str) = some .local
  s4 : scope.names.lookup ("at" : Str) = some .local
  sk : scope.kind = .function
  nc : ∀ x ∈ scope.names, x.2 ≠ .cell
  co : scope.isCoroutine = false
  gen : scope.isGenerator = false
  top : (p.main.scope.names.lookup ("super" : Str)).isSome = false

section
variable {p : Program} {w : World} {A : Around} {R : Result → Shared → Prop} {K : Frag} {C f cc cda : Addr} {name qual : Str} {params : Arguments} {body : List Stmt} {scope : Scope} {dV kV doc pm ct : Value} {an : Option Addr} {mg : Str → Option Value}
theorem sup_run (T : SupC p K C f name qual params body scope cc cda dV kV doc pm ct an) {hp : Heap} {g : Array GenState} {d : Drawn} {t : Nat} {os : OsState} {e t0 : Addr} {v : Value} (X : K.In hp) (G : hp.Ns mainGlobals mg) (hms : mg "super" = none)
    (B : ∃ mb, hp.Ns builtinsNs mb ∧ ∀ x : Str, x ≠ "__name__" → mb x = bootBuiltins x) (nl : hp.NoLimit) (hroom : A.depth < recursionLimit) (he : hp.get? e = some (HandSPX.excO C t0)) (hne : ∀ o, K.lookup e ≠ some o)
    (hq : ∀ h' tk' dx t1, (∀ b o, b ≠ e → hp.get? b = some o → h'.get? b = some o) → hp.objs.size ≤ dx → dx ≠ e → h'.get? e = some { cls := .ref C, dict := some dx, data := .fields #[.ref t1, .none, .none, .none, .bool false, .none] } →
      h'.Ns1 dx (fun y => if y = "at" then some v else none) → R (.ok (.ret .none)) ⟨h', g, d, tk', os⟩) :
    codeAny (model p w) A (.call (.ref f) ⟨[.ref e, v], []⟩) R ⟨hp, g, d, t, os⟩ := by
  obtain ⟨oc, od, osl, hf⟩ := T.fn
  obtain ⟨msg, p0, p1, p2, p3, j, p4, p5, p6, p7, p8, p9, hbody, pl, hev⟩ := T.bd
  obtain ⟨ar, har, harg⟩ := T.hd
  obtain ⟨ccl, cdd, vs, ccs, file, tf, hcode, hvs, hfile⟩ := T.fil
  obtain ⟨cl, cld, csl, hcell⟩ := T.cell
  obtain ⟨cd, hcd⟩ := T.cls
  obtain ⟨nm, q, N, bs, bm, sn, sub, ab, col, dd, k0, k1, k2, k3, k5, hC, hbm⟩ := T.oe.cls
  have hcl : clsIn K C = some { name := nm, bases := bs, mro := .ref C :: bm, ns := N, qualname := q, hasDict := true, slotNames := sn, subclasses := sub, abstract := ab, collection := col, hasDel := false } := by unfold clsIn; rw [hC] <;> rfl
  have hsz : e < hp.objs.size := Heap.lt_size he
  refine ks_codeAny_call_defAt (fd := ksFn name qual params body scope dV kV doc pm an (.ref cda) ct cc) (body := body) (binds := [(("self" : Str), .ref e), (("at" : Str), v)]) hroom (X _ _ hf) rfl nl (codeRec_of X T.cod) rfl
    (BindsTo.of_eq (T.bn _ _)) T.nc (fun x hx => ?_) (fun h₁ hns hk => ?_) T.co T.gen T.sk
  · rcases List.mem_cons.mp hx with rfl | hx
    · exact T.s3
    · rw [List.mem_singleton.mp hx]; exact T.s4
  have X1 : K.In h₁ := X.keeps hk
  have he1 := hk _ _ he
  have hS : ([(("self" : Str), Value.ref e), (("at" : Str), v)] : List (Str × Value)).reverse.lookup ("self" : Str) = some (.ref e) := by rfl
  have hA : ([(("self" : Str), Value.ref e), (("at" : Str), v)] : List (Str × Value)).reverse.lookup ("at" : Str) = some v := by rfl
  rw [hbody]
  show _root_.PySem.wpAt _ (A.deeper (ksEnv qual scope hp.objs.size f (.ref cda) cc)) (.func _ (ksEnv qual scope hp.objs.size f (.ref cda) cc)) (execs _ (ksEnv qual scope hp.objs.size f (.ref cda) cc)) _ _ _
  have hD1 : ∃ oD, h₁.get? C = some oD ∧ oD.data = .cls cd := by
    unfold clsIn at hcd
    split at hcd
    · rename_i c1 c2 cd' sl ho
      cases hcd
      exact ⟨_, X1 _ _ ho, rfl⟩
    · cases hcd
  obtain ⟨oD, hD1, hD2⟩ := hD1
  refine ks_wpAt_execs_cons (ks_wpAt_Expr_any (ks_wpAt_MethodCall ?_ (hev _).1) (hev _).2.1 (hev _).2.2.1)
  · refine ks_wpAt_super_base (env := ksEnv qual scope hp.objs.size f (.ref cda) cc) T.s1 T.s2 (by decide) rfl (X1 _ _ hf) rfl har rfl (X1 _ _ hcode) rfl hvs hfile T.top ?_
    obtain ⟨mb, b1, b2⟩ := B
    refine ks_loadName_global T.sk T.s1 (loadGlobal_builtin (env := ksEnv qual scope hp.objs.size f (.ref cda) cc) (G.keeps hk) hms (b1.keeps hk) ((b2 "super" (by decide)).trans (by first | rfl | kernel_rfl)) ⟨rfl, ?_⟩)
    refine wpAny_loadName_free T.sk T.s2 rfl ⟨_, X1 _ _ hcell, rfl⟩ ?_
    rw [harg]
    refine wpAny_loadName_local T.sk T.s3 hns hS ?_
    refine ks_wpAny_isType_cls hD1 hD2 ⟨rfl, ?_⟩
    refine ks_wpAny_call_super hD1 hD2 he1 rfl (fun c z => nomatch z) (looks_mroIn X1 T.sub) (fun h2 e2 k2 => ?_)
    have X2 : K.In h2 := X1.keeps k2
    have he2 := k2 _ _ he1
    have I2 : InstAt h2 e (HandSPX.excO C t0) C none := ⟨he2, rfl, rfl, trivial⟩
    have hsup := T.sup
    unfold ks_superIn at hsup
    rw [hcd, Option.bind_some] at hsup
    refine kxs_getMethod kxs_ValueError e2 (looks_opaque X2 T.opq) (l₀ := cd.mro) (fun A Q E s k q => wpAny_bind ((looks_clsIn X2 hcd) A _ E s k (wpAny_pure q))) rfl X2 hsup (I2.type.andThen (looks_subIn X2 T.isV)) (ks_ne X2 I2 hcd) (by decide) ?_
    have k3 : ∀ b o, h2.get? b = some o → (h2.push (kxs_mw "ValueError.__init__" e)).get? b = some o := fun b o z => Heap.get?_push_of_some _ z
    have hu := Heap.get?_push_size h2 (o := kxs_mw "ValueError.__init__" e) rfl
    refine kxs_callWith (i := "ValueError.__init__") (x := e) rfl (evalArgs_plain (spliced_cons (Constant_str (k := j) (pos := p3) (spliced_nil ⟨hu, ?_⟩))))
    have he3 := k3 _ _ he2
    have hC3 := (X2.keeps k3) _ _ hC
    refine wpAny_call (codeAny_of_tree ?_)
    show wpAny _ (A.deeper _).in1 (callAny (.ref h2.objs.size) ⟨_, []⟩) _ _ _
    simp only [callAny]
    refine wpAny_bind (wpAny_load hu ?_)
    simp only [kxs_mw, show (Value.type "method-wrapper" == Value.type "method" || Value.type "method-wrapper" == Value.type "builtin_function_or_method" || Value.type "method-wrapper" == Value.type "method-wrapper") = true by decide, if_true]
    refine KFB.if_so (by decide) ?_
    refine wpAny_bind (check_bound_init PySem.F.excBase_ValueError.toExcCallFacts hC3 he3 rfl ?_)
    refine wpAny_bind (wpAny_pure (wpAny_pure ?_))
    refine ⟨plainId_quiet PySem.F.excBase_ValueError.init.plain _, codeAny_builtin PySem.F.excBase_ValueError.initEntry ?_⟩
    refine exc_init_tree (cls := .ref C) (t0 := t0) (dv := none) (c2 := .none) (c3 := .none) (b4 := .bool false) he3 (by show 1 ≤ sizeLine; decide) fun h4 k4 he4 _ => ?_
    have K4 : ∀ b o, b ≠ e → h₁.get? b = some o → h4.get? b = some o := fun b o hb z => k4 b o hb (k3 _ _ (k2 _ _ z))
    have nK : ∀ b o, K.lookup b = some o → b ≠ e := fun b o z y => by
      subst y
      exact hne o z
    have X4 : K.In h4 := fun b o z => K4 b o (nK b o z) (X1 _ _ z)
    have hns4 : h4.Ns hp.objs.size fun x => ([(("self" : Str), Value.ref e), (("at" : Str), v)] : List (Str × Value)).reverse.lookup x := by
      obtain ⟨o, es, ep, z, r⟩ := hns
      exact ⟨o, es, ep, K4 _ _ (Nat.ne_of_gt hsz) z, r⟩
    refine ks_wpAt_execs_cons (ks_wpAt_Assign_Attr ?_ (hev _).2.2.2)
    refine wpAt_of_wpAny (wpAny_Name (wpAny_loadName_local T.sk T.s4 hns4 hA ?_) (by decide))
    refine wpAny_Name (wpAny_loadName_local T.sk T.s3 hns4 hS ?_) (by decide)
    refine set_plain X4 (ox := { cls := .ref C, dict := none, data := .fields #[.ref _, .none, .none, .none, .bool false, .none] }) (od := none) ⟨he4, rfl, rfl, trivial⟩ T.oe.sa ?_
    refine HandSPX.exc_osa X4 he4 hcl (show HandSPX.refsVE (.ref C :: bm) = true from hbm) rfl T.noA (fun h' tk' dx k dn dne hx hn => ?_)
    refine wpAt_of_wpAny (wpAny_pure ?_)
    have hge : hp.objs.size < h4.objs.size := by
      obtain ⟨o, _, _, z, _⟩ := hns4
      exact Heap.lt_size z
    exact hq h' tk' dx _ (fun b o hb z => k b o hb (K4 b o hb (hk _ _ z))) (Nat.le_trans (Nat.le_of_lt hge) dn) dne hx hn
end
end Mi
namespace Mi
open PySem PySem.Spec L2
section
variable {X : Cx} {W : WX} {xs : XSlot} {x : Str} {C f cc cda : Addr} {name qual : Str} {params : Arguments} {body : List Stmt} {scope : Scope} {dV kV doc pm ct : Value} {an : Option Addr} {e : Expr} {te : TE} {p pos rpos : Pos} {c : EM}
theorem pmk_sup (T : SupC X.prog X.K C f name qual params body scope cc cda dV kV doc pm ct an) (iC : PySem.W.findIn X.K (.ref C) "__init__" = some (some (.ref f))) (tI : PySem.W.typeIn X.K (.ref f) = some (.type "function"))
    (hr : Room 1 X.A) (hms : X.mg "super" = none) (hg : Gl X x) (hm : X.mg x = some (.ref C)) (ha : PE X e te)
    (hdb : (x == ("__debug__" : Str)) = false := by decide) (he : starEach [e] X.env = (false, eval e X.env) :: starEach [] X.env := by rfl) :
    PMk X (.Call (.Name x p) [e] [] pos) (fun σ H Q => te σ H fun y H1 => ∀ dx, H1 dx = none → Q (.ref C) (some dx) (upd H1 dx (.xd [("at", y)]))) := by
  intro pins s σ H Q I h
  obtain ⟨nm, q, N, bs, bm, sn, sub, ab, col, dd, k0, k1, k2, k3, k5, hC, hbm⟩ := T.oe.cls
  refine wpAny_Call_Name_kw (ld_glob I hg hm ?_ hdb)
  refine PySem.W.callWith_K (h₀ := X.base) I.ok.mod.kin T.oe.kC (one_arg ha I h (fun v s1 y H1 I1 ry q1 => ⟨I1.kIn, ?_⟩) he) he rfl
  show wpAny _ _ (call (.ref C) [v]) _ _ _
  obtain ⟨hp, g, dr, tk, os⟩ := s1
  have hsz : hp.objs.size ≤ hp.objs.size + 1 := Nat.le_succ _
  have hn : H1 (hp.objs.size + 1) = none := I1.hok.fresh hsz
  have kk : ∀ b o, hp.get? b = some o → ((hp.push (PySem.W.kdv_tup [v])).push (PySem.HandSPX.excO C hp.objs.size)).get? b = some o := fun b o e => Heap.get?_push_of_some _ (Heap.get?_push_of_some _ e)
  have hget : ((hp.push (PySem.W.kdv_tup [v])).push (PySem.HandSPX.excO C hp.objs.size)).get? (hp.objs.size + 1) = some (PySem.HandSPX.excO C hp.objs.size) := by heap_get
  have bk := I1.bk
  obtain ⟨mb, b1, b2⟩ := I1.mod.blt
  refine wpAny_call (PySem.HandSPX.call_own PySem.F.excBase_ValueError (fun Y => PySem.HandSPX.refsVE_contains Y bm hbm) (I1.kIn _ _ hC) (PySem.W.looks_findIn I1.kIn iC) (fun self => PySem.W.bind_fn I1.kIn self tI) (by show 1 ≤ sizeLine; decide)
    (sup_run T (I1.kIn.keeps kk) ((I1.mod.glob.keeps bk).keeps kk) hms ⟨mb, (b1.keeps bk).keeps kk, b2⟩ ((I1.mod.nolimit.keeps bk).keeps kk) (hr.make C [v] []).depth hget (fun o z => ?_) fun h' tk' dx t1 k dn dne hx hns => ?_))
  · have z2 : hp.objs.size + 1 < hp.objs.size := Heap.lt_size (I1.kIn _ _ z)
    exact absurd z2 (Nat.not_lt.mpr (Nat.le_succ _))
  · refine ⟨rfl, ?_⟩
    obtain ⟨G, g1', g2'⟩ := restrict h' fun b => decide (b ≠ hp.objs.size + 1)
    have gk : ∀ b, b ≠ hp.objs.size + 1 → G.get? b = h'.get? b := fun b hb => g1' b (decide_eq_true hb)
    have ge : G.get? (hp.objs.size + 1) = none := g2' _ (by simp)
    have kG : ∀ b o, hp.get? b = some o → G.get? b = some o := fun b o z => by
      have z2 : b < hp.objs.size := Heap.lt_size z
      have hb : b ≠ hp.objs.size + 1 := Nat.ne_of_lt (Nat.lt_succ_of_lt z2)
      rw [gk b hb]
      exact k b o hb (kk b o z)
    have hd : hp.objs.size ≤ dx := by
      have z1 : ((hp.push (PySem.W.kdv_tup [v])).push (PySem.HandSPX.excO C hp.objs.size)).objs.size = hp.objs.size + 2 := by rw [Heap.size_push, Heap.size_push]
      have z2 : ((hp.push (PySem.W.kdv_tup [v])).push (PySem.HandSPX.excO C hp.objs.size)).objs.size ≤ dx := dn
      exact Nat.le_trans (Nat.le_trans (Nat.le_add_right _ 2) (Nat.le_of_eq z1.symm)) z2
    have J := I1.laid (t' := tk') (a := dx) (o := .xd [("at", y)]) (h' := G) kG hd ⟨_, hns.at fun o z => (gk dx dne).trans z, relO_put (fs := []) ry fun g => True.intro⟩
    refine ⟨hp.objs.size + 1, _, _, ⟨G, g, dr, tk', os⟩, _, .ref C, some dx, rfl, J, fun b o z => ?_, ge, hx, ⟨rfl, rfl⟩, rfl, rfl, ?_, rfl, I1.bare, raises_own T.oe.exC T.oe.tyC, q1 dx (I1.hok.fresh hd)⟩
    · by_cases hb : b = hp.objs.size + 1
      · rw [hb, ge] at z; cases z
      · exact (gk b hb).symm.trans z
    · rw [upd_ne (Ne.symm dne)]; exact hn
def sRaise (x : Str) (c : EM) : SM := fun e st => (c e st).toS e fun d st1 => .exc x (some d) e st1
theorem ms_raise (hc : X.calm = true) (tk : Takes X W) (T : SupC X.prog X.K C f name qual params body scope cc cda dV kV doc pm ct an) (iC : PySem.W.findIn X.K (.ref C) "__init__" = some (some (.ref f))) (tI : PySem.W.typeIn X.K (.ref f) = some (.type "function"))
    (hr : Room 1 X.A) (hms : X.mg "super" = none) (hm : X.mg x = some (.ref C)) (ha : ME X W xs e c) (hg : Gl X x := by rfl)
    (hdb : (x == ("__debug__" : Str)) = false := by decide) (he : starEach [e] X.env = (false, eval e X.env) :: starEach [] X.env := by rfl) :
    MS X W xs (.Raise (some (.Call (.Name x p) [e] [] pos)) none rpos) (sRaise x c) :=
  PSi (ps_raise hc tk (pmk_sup T iC tI hr hms hg hm ha hdb he)) fun Dn σ H ⟨m, p, env, sto, E, S, h⟩ => ⟨m, p, env, sto, E, S, h.andD E fun d st1 v m1 H1 e1 s1 r1 h1 => fun dx hn =>
    h1 σ m1 _ (.ref C) (some dx) (Ext.new hn) ((E.ext e1).ext (Ext.new hn)) (s1.new hn) ⟨hm, dx, _, v, rfl, fun z => s1.live dx z hn, upd_same, rfl, Rep.ext (Ext.new hn) _ _ r1⟩⟩
end
end Mi

namespace Mi
open PySem PySem.Spec L2

/-! ## try: .. except C1 as x: .. except C2: .. -/
abbrev Cl := Value × Option Nat × (Addr → Value → Option Addr → TS)
def unN (i : Nat) (D : Ends) : Ends := { nx := fun τ h => D.nx (τ.set i none) h, rt := D.rt, bk := fun τ h => D.bk (τ.set i none) h, ct := fun τ h => D.ct (τ.set i none) h }
def wCl (K : PySem.W.Frag) (Wo : WX) (D : Ends) : List Cl → WX
  | [] => Wo
  | (c, o, ts) :: r => fun cls dx τ h => ∃ b, PySem.W.exmOne K cls c = some b ∧ (b = true → ∀ a, h a = none → match o with
      | none => ts a cls dx D τ h
      | some i => ts a cls dx (unN i D) (τ.set i (some (.ref a))) h) ∧ (b = false → wCl K Wo D r cls dx τ h)
inductive ClOk (X : Cx) : List ExceptHandler → List Cl → Prop
  | nil : ClOk X [] []
  | plain {x : Str} {c : Value} {ts : Addr → Value → Option Addr → TS} {b0 : Stmt} {bs : List Stmt} {q1 q2 : Pos} {hs : List ExceptHandler} {l : List Cl} (hc : Names X x c)
      (hb : ∀ (a : Addr) (oe : Obj) (cls : Value) (dx : Option Addr) (pn : List (Addr × Obj)), Zc cls dx oe → (∃ vs, oe.data = .fields vs) → PSs (X.suite a ((a, oe) :: pn)) (b0 :: bs) (ts a cls dx)) (r : ClOk X hs l) :
      ClOk X (.ExceptHandler (some (.Name x q1)) none (b0 :: bs) q2 :: hs) ((c, none, ts) :: l)
  | named {x n : Str} {i : Nat} {c : Value} {ts : Addr → Value → Option Addr → TS} {b0 : Stmt} {bs : List Stmt} {q1 q2 : Pos} {hs : List ExceptHandler} {l : List Cl} (hN : X.N.Nodup) (hi : X.N[i]? = some n) (hl : X.env.kindOf n = some .local) (hc : Names X x c)
      (hb : ∀ (a : Addr) (oe : Obj) (cls : Value) (dx : Option Addr) (pn : List (Addr × Obj)), Zc cls dx oe → (∃ vs, oe.data = .fields vs) → PSs (X.suite a ((a, oe) :: pn)) (b0 :: bs) (ts a cls dx)) (r : ClOk X hs l) :
      ClOk X (.ExceptHandler (some (.Name x q1)) (some n) (b0 :: bs) q2 :: hs) ((c, some i, ts) :: l)
section
variable {X : Cx}
/-- the ends of a flow, seen from within and from without -/
theorem SP.lift {X Y : Cx} {p1 p2 : List (Addr × Obj)} {D : Ends} {f : Flow} {s : Shared} (k : ∀ {τ : L2.St} {h : Hp}, Inv Y p1 τ h s → Inv X p2 τ h s) (h : SP Y p1 D f s) : SP X p2 D f s := by
  cases f with
  | next => obtain ⟨τ, h, J, q⟩ := h; exact ⟨τ, h, k J, q⟩
  | brk => obtain ⟨τ, h, J, q⟩ := h; exact ⟨τ, h, k J, q⟩
  | cont => obtain ⟨τ, h, J, q⟩ := h; exact ⟨τ, h, k J, q⟩
  | ret u => obtain ⟨v, τ, h, J, r, q⟩ := h; exact ⟨v, τ, h, k J, r, q⟩
theorem ps_tryA {body : List Stmt} {h0 : ExceptHandler} {hs : List ExceptHandler} {l : List Cl} {pos : Pos} {tb : WX → TS} {Wo : WX} (hst : X.stack = X.env :: X.outer) (hfr : X.env.frame = some X.env.locals) (tk : Takes X Wo)
    (hb : ∀ (W : WX) (pn : List (Addr × Obj)) (xe : Value → Shared → Prop), Takes (X.tr pn xe) W → PassesOwn (model X.prog X.w) X.A X.env xe → PSs (X.tr pn xe) body (tb W))
    (hh : ClOk X (h0 :: hs) l) : PS X (.Try body (h0 :: hs) [] [] pos) (fun D τ h => tb (wCl X.K Wo D l) D τ h) := by
  refine ⟨fun pins s τ0 hp0 D I0 w0 => ?_⟩
  have okX := I0.ok
  have fX : X.A.frames = some (X.env :: X.outer) := okX.frames.trans (by rw [hst])
  have B := hb (wCl X.K Wo D l) (X.pn ++ pins) (fun e sa => wpAny (model X.prog X.w) X.A (noteFrame e X.env) (fun _ sb => wpAny (model X.prog X.w) X.A (setFlight e none) (fun _ sc =>
    wpAny (model X.prog X.w) X.A (handleBy e X.env (h0 :: hs)) (SP X pins D) X.xe sc) X.xe sb) X.xe sa)
  refine wpAny_Try_except (wpAny_mono ((B (fun u sx air => ?_) PassesOwn.looking).run [] s τ0 hp0 D (I0.toTry _) w0) (fun f s1 z => ?_) fun _ _ z => z)
  · obtain ⟨ea, Bg, sI, pinz, τ, hp, cls, dx, rfl, Ja, low, up0, sky, hea, hos, hag, wish⟩ := air
    have J : Inv X pins τ hp sI := Ja.ofTry okX
    show wpAny (model X.prog X.w) X.A (noteFrame (.ref ea) X.env) _ _ _
    refine Sky.land Zc.steady fX hfr (by rw [← hst]; exact sky) fun hL flL upL => ?_
    have JL : Inv X pins τ hp { sx with heap := hL } := J.landed low flL.1 (up0.trans upL) hos hag
    obtain ⟨oeL, vsL, atL, zcL, dtL⟩ := flL.there
    have offF : ea ∉ frs (X.env :: X.outer) := fun hm => by
      obtain ⟨_, o1, e1, nf⟩ := flL.2.2.1.mem hm
      rw [atL] at e1; cases e1
      exact nf _ dtL
    have offL : ea ≠ X.env.locals := fun z => offF (List.mem_filterMap.mpr ⟨X.env, List.mem_cons_self, by rw [hfr, z]⟩)
    have offS : ea ∉ X.fs := fun hm => by
      obtain ⟨ev, hv, q⟩ := List.mem_filterMap.mp hm
      exact offF (List.mem_filterMap.mpr ⟨ev, List.mem_cons_of_mem _ hv, q⟩)
    have SL := JL.suite atL dtL hea offL offS
    have key : ∀ {hs' : List ExceptHandler} {l' : List Cl}, ClOk X hs' l' → wCl X.K Wo D l' cls dx τ hp → wpAny (model X.prog X.w) X.A (handleBy (.ref ea) X.env hs') (SP X pins D) X.xe { sx with heap := hL } := by
      intro hs' l' hk
      have LT : PySem.W.Looks (model X.prog X.w) hL (typeOf (.ref ea)) cls := fun A Q E s k q => wpAny_typeOf_ref (k _ _ atL) (by rw [zcL.1]; exact q)
      have askN : ∀ {x : Str} {c : Value} {np : Pos} {Q : Value → Shared → Prop} {E : Value → Shared → Prop}, Names X x c → Q c { sx with heap := hL } → wpAny (model X.prog X.w) (X.A.mark (some (.ref ea))) (eval (.Name x np) X.env) Q E { sx with heap := hL } := by
        intro x c np Q E nmX q
        obtain ⟨g1, g2, g3 | ⟨g3, g4, g5⟩⟩ := nmX
        · exact ld_glob (X := X.suite ea ((ea, oeL) :: (X.pn ++ pins))) SL g1 g3 q g2
        · exact ld_blt (X := X.suite ea ((ea, oeL) :: (X.pn ++ pins))) SL g1 g3 g4 q g5 g2
      induction hk with
      | nil =>
        intro wz
        refine wpAny_handleBy_nil ?_
        obtain ⟨_, _, _, oe1, vs1, T1, _, _, at1, _, dt1, fst1, _⟩ := id flL
        unfold PySem.passOn
        refine wpAny_bind (wpAny_field at1 dt1 fst1 ?_)
        rw [if_neg (by simp : ¬ ((Value.ref T1 == Value.none) = true))]
        have out : wpAny (model X.prog X.w) X.A (setFlight (.ref ea) X.env.frame) (fun _ sd => wpAny (model X.prog X.w) X.A (throw (.ref ea) : Sem Flow) (SP X pins D) X.xe sd) X.xe { sx with heap := hL } := by
          rw [hfr]
          exact HandSPX.setFlight_upZ flL fun hM heldM upM => wpAny_throw (tk _ _ ⟨ea, Bg, sI, pins, τ, hp, cls, dx, rfl, J, low, (up0.trans upL).trans upM, .inr (.inr (by rw [hst]; exact heldM)), hea, hos, hag, wz⟩)
        first
          | exact wpAny_bind (wpAny_pure (wpAny_bind out))
          | exact wpAny_bind out
      | @plain x c ts b0 bs q1 q2 hs2 l2 hc hb2 r ih =>
        intro wz
        obtain ⟨b, hb1, hyes, hno⟩ := wz
        refine wpAny_handleBy_cons (codeAny_handlers_test (askN hc ((PySem.W.exm_one (M := model X.prog X.w) JL.kIn LT hb1).here ?_))) (by intro q; cases q)
        cases b with
        | false => exact ih (hno rfl)
        | true =>
          refine codeAny_handlers_suite (HandSPX.lands_againZ flL fun hM flM upM => ?_)
          obtain ⟨oeM, vsM, atM, zcM, dtM⟩ := flM.there
          have SM := (J.landed low flM.1 ((up0.trans upL).trans upM) hos hag : Inv X pins τ hp { sx with heap := hM }).suite atM dtM hea offL offS
          exact wpAny_mono ((hb2 ea oeM cls dx (X.pn ++ pins) zcM ⟨_, dtM⟩).run [] _ _ hp _ SM (hyes rfl ea hea)) (fun f s6 z => SP.lift (fun j => j.unsuite okX) z) fun _ _ z => False.elim z
      | @named x n i c ts b0 bs q1 q2 hs2 l2 hN hi hln hc hb2 r ih =>
        intro wz
        obtain ⟨b, hb1, hyes, hno⟩ := wz
        refine wpAny_handleBy_cons (codeAny_handlers_test (askN hc ((PySem.W.exm_one (M := model X.prog X.w) JL.kIn LT hb1).here ?_))) (by intro q; cases q)
        cases b with
        | false => exact ih (hno rfl)
        | true =>
          refine codeAny_handlers_suite_as (HandSPX.lands_againZ flL fun hM flM upM => ?_)
          obtain ⟨oeM, vsM, atM, zcM, dtM⟩ := flM.there
          have SM := (J.landed low flM.1 ((up0.trans upL).trans upM) hos hag : Inv X pins τ hp { sx with heap := hM }).suite atM dtM hea offL offS
          refine store_ok (X := X.suite ea ((ea, oeM) :: (X.pn ++ pins))) (v := .ref ea) SM hN hi (.inl hln) rfl (fun s5 S5 => ?_) (.inr hln)
          refine wpAny_mono ((hb2 ea oeM cls dx (X.pn ++ pins) zcM ⟨_, dtM⟩).run [] s5 _ hp _ S5 (hyes rfl ea hea)) (fun f s6 z => ?_) fun _ _ z => False.elim z
          have z' : SP X pins (unN i D) f s6 := SP.lift (fun j => j.unsuite okX) z
          cases f with
          | next => obtain ⟨τ6, h6, J6, g6⟩ := z'; exact gone_ok J6 hN hi hln fun s7 J7 => ⟨_, _, J7, g6⟩
          | brk => obtain ⟨τ6, h6, J6, g6⟩ := z'; exact gone_ok J6 hN hi hln fun s7 J7 => ⟨_, _, J7, g6⟩
          | cont => obtain ⟨τ6, h6, J6, g6⟩ := z'; exact gone_ok J6 hN hi hln fun s7 J7 => ⟨_, _, J7, g6⟩
          | ret u => obtain ⟨v6, τ6, h6, J6, r6, g6⟩ := z'; exact gone_ok J6 hN hi hln fun s7 J7 => ⟨_, _, _, J7, r6, g6⟩
    exact key hh wish
  · have z' : SP X pins D f s1 := SP.lift (fun j => j.ofTry okX) z
    cases f with
    | next => exact wpAny_execs_nil z'
    | brk => exact z'
    | cont => exact z'
    | ret u => exact z'
end

/-! ## .. in Mini -/
def unS (i : Nat) (o : SO) : SO := match o with
  | .nx e st => .nx (e.set i none) st
  | .bk e st => .bk (e.set i none) st
  | .ct e st => .ct (e.set i none) st
  | .rt d st => .rt d st
  | _ => .bad
def noX (o : SO) : SO := match o with
  | .exc _ _ _ _ => .bad
  | o => o
def hdl (sub : Str → Str → Option Bool) : List (Str × Option Nat × SM) → Str → Option D → En → Sto → SO
  | [], x, v, e, st => .exc x v e st
  | (c, oi, b) :: r, x, v, e, st => match sub x c with
    | some true => match oi with
      | none => noX (b e st)
      | some i => match v with
        | some d => unS i (b (e.set i (some d)) st)
        | none => .bad
    | some false => hdl sub r x v e st
    | none => .bad
def sTry (sub : Str → Str → Option Bool) (b : SM) (hs : List (Str × Option Nat × SM)) : SM := fun e st => match b e st with
  | .exc x v e1 st1 => hdl sub hs x v e1 st1
  | o => o
/-- an error class whose field at can be read -/
def XfH (K : PySem.W.Frag) (cls : Value) : Prop := ∃ C, cls = .ref C ∧ XfC K C ∧ PySem.W.findIn K (.ref C) "at" = some none
structure ExT (X : Cx) (sub : Str → Str → Option Bool) : Prop where
  ok : ∀ x c b cls cc, sub x c = some b → X.mg x = some cls → X.mg c = some cc → PySem.W.exmOne X.K cls cc = some b ∧ XfH X.K cls
/-- .. out of a table -/
def exTab (K : PySem.W.Frag) (mg : Str → Option Value) (t : List (Str × Str × Bool)) : Bool := t.all fun r => match mg r.1, mg r.2.1 with
  | some (.ref C), some cc => decide (PySem.W.exmOne K (.ref C) cc = some r.2.2) && (xfB K C && decide (PySem.W.findIn K (.ref C) "at" = some none))
  | _, _ => false
def subOf (t : List (Str × Str × Bool)) (x c : Str) : Option Bool := (t.find? fun r => decide (r.1 = x) && decide (r.2.1 = c)).map (·.2.2)
theorem ExT.of {X : Cx} {t : List (Str × Str × Bool)} (h : exTab X.K X.mg t = true) : ExT X (subOf t) := by
  refine ⟨fun x c b cls cc hs hx hc => ?_⟩
  unfold subOf at hs
  obtain ⟨r, hr, rfl⟩ := Option.map_eq_some_iff.mp hs
  have h1 := List.find?_some hr
  have h2 := List.mem_of_find?_eq_some hr
  have h3 := List.all_eq_true.mp h r h2
  simp only [Bool.and_eq_true, decide_eq_true_eq] at h1
  obtain ⟨rfl, rfl⟩ := h1
  rw [hx, hc] at h3
  cases cls with
  | ref C =>
    simp only [Bool.and_eq_true, decide_eq_true_eq] at h3
    exact ⟨h3.1, C, rfl, xfB_ok h3.2.1, h3.2.2⟩
  | _ => exact absurd h3 Bool.false_ne_true

section
variable {G : Gn} {m p : List Addr} {H : Hp} {env : En} {σ : L2.St}
theorem EnvR.caught {i : Nat} {a q : Addr} {d : D} (E : EnvR G m p H none env σ) (hq : q ∉ m) (hx : ∃ fs v, H q = some (.xd fs) ∧ fs.lookup ("at" : Str) = some v ∧ Rep G m p H d v) : EnvR G m p H (some (i, a, q)) (env.set i (some d)) (σ.set i (some (.ref a))) := by
  refine ⟨by simp [E.1], fun k e hk => ?_⟩
  by_cases hik : i = k
  · subst hik
    have hlt : i < (env.set i (some d)).length := (List.getElem?_eq_some_iff.mp hk).1
    rw [List.length_set] at hlt
    rw [List.getElem?_set_self hlt] at hk
    cases hk
    exact .inl ⟨a, q, rfl, List.getElem?_set_self (by rw [E.1]; exact hlt), hq, hx⟩
  · rw [List.getElem?_set_ne hik] at hk
    rw [List.getElem?_set_ne hik]
    obtain ⟨v, h1, h2⟩ := E.get hk (fun q z => by cases z)
    exact .inr ⟨fun q z => hik (by cases z; rfl), v, h1, h2⟩
theorem EnvR.let_go {i : Nat} {a q : Addr} (E : EnvR G m p H (some (i, a, q)) env σ) : EnvR G m p H none (env.set i none) (σ.set i none) := by
  refine ⟨by simp [E.1], fun k e hk => ?_⟩
  by_cases hik : i = k
  · subst hik
    have hlt : i < (env.set i none).length := (List.getElem?_eq_some_iff.mp hk).1
    rw [List.length_set] at hlt
    rw [List.getElem?_set_self hlt] at hk
    cases hk
  · rw [List.getElem?_set_ne hik] at hk
    rw [List.getElem?_set_ne hik]
    obtain ⟨v, h1, h2⟩ := E.get hk (fun q z => hik (by cases z; rfl))
    exact .inr ⟨fun q z => (by cases z), v, h1, h2⟩
end
/-- except clauses -/
def MCl (X : Cx) (sub : Str → Str → Option Bool) (hs : List ExceptHandler) (l' : List (Str × Option Nat × SM)) : Prop :=
  ∃ l : List Cl, ClOk X hs l ∧ ∀ x v e1 st1 σ m p H cls dx (Dn : Ends) (Wo : WX), EnvR (gn X) m p H none e1 σ → SR (gn X) m p H st1 → ExcR (gn X) m p H x v cls dx → OkS (gn X) Wo none m p H (hdl sub l' x v e1 st1) Dn → wCl X.K Wo Dn l cls dx σ H
section
variable {X : Cx} {W : WX} {sub : Str → Str → Option Bool} {hs : List ExceptHandler} {l : List (Str × Option Nat × SM)} {x n : Str} {cc : Value} {b0 : Stmt} {bs : List Stmt} {q1 q2 pos : Pos} {c b : SM} {i : Nat}
theorem mcl_nil : MCl X sub [] [] := ⟨[], .nil, fun x v e1 st1 σ m p H cls dx Dn Wo E S r h => h σ m H cls dx Ext.refl E S r⟩
theorem mcl_named (T : ExT X sub) (i : Nat) (hN : X.N.Nodup) (hm : X.mg x = some cc)
    (hb : ∀ (a : Addr) (oe : Obj) (cls : Value) (q : Addr) (pn : List (Addr × Obj)), Zc cls (some q) oe → (∃ vs, oe.data = .fields vs) → XfH X.K cls → MSs (X.suite a ((a, oe) :: pn)) wN (some (i, a, q)) (b0 :: bs) c) (hr : MCl X sub hs l)
    (hi : X.N[i]? = some n := by rfl) (hl : X.env.kindOf n = some .local := by rfl) (hg : Gl X x := by rfl) (hd : (x == ("__debug__" : Str)) = false := by decide) :
    MCl X sub (.ExceptHandler (some (.Name x q1)) (some n) (b0 :: bs) q2 :: hs) ((x, some i, c) :: l) := by
  obtain ⟨l2, k1, k2⟩ := hr
  refine ⟨(cc, some i, fun a cls dx Dn σ H => XfH X.K cls ∧ ∃ q, dx = some q ∧ rdS (gn X) wN (some (i, a, q)) c Dn σ H) :: l2, .named hN hi hl ⟨hg, hd, .inl hm⟩ (fun a oe cls dx pn hz hf => ⟨fun pins s σ H Dn I ⟨hx, q, e, r⟩ => ?_⟩) k1, ?_⟩
  · subst e
    exact (hb a oe cls q pn hz hf hx).run pins s σ H Dn I r
  · intro x1 v e1 st1 σ m p H cls dx Dn Wo E S r h
    unfold hdl at h
    cases q : sub x1 x with
    | none => simp only [q] at h; exact h.elim
    | some bb =>
      obtain ⟨h1, h2⟩ := T.ok x1 x bb cls cc q r.1 hm
      refine ⟨bb, h1, fun hbb a ha => ?_, fun hbb => ?_⟩
      · subst hbb
        simp only [q] at h
        cases v with
        | none => exact h.elim
        | some d =>
          simp only at h
          obtain ⟨dq, fs, w, rfl, hq, hH, hlk, hrep⟩ := r.2
          refine ⟨h2, dq, rfl, m, p, e1.set i (some d), st1, E.caught hq ⟨fs, w, hH, hlk, hrep⟩, S, ?_⟩
          cases o : c (e1.set i (some d)) st1 with
          | nx e2 st2 => rw [o] at h; exact fun σ' m' H' x' E' S' => h _ m' H' x' E'.let_go S'
          | bk e2 st2 => rw [o] at h; exact fun σ' m' H' x' E' S' => h _ m' H' x' E'.let_go S'
          | ct e2 st2 => rw [o] at h; exact fun σ' m' H' x' E' S' => h _ m' H' x' E'.let_go S'
          | rt d2 st2 => rw [o] at h; exact h
          | exc _ _ _ _ => rw [o] at h; exact h.elim
          | bad => rw [o] at h; exact h.elim
      · subst hbb
        simp only [q] at h
        exact k2 x1 v e1 st1 σ m p H cls dx Dn Wo E S r h
theorem mcl_plain (T : ExT X sub) (hm : X.mg x = some cc)
    (hb : ∀ (a : Addr) (oe : Obj) (cls : Value) (dx : Option Addr) (pn : List (Addr × Obj)), Zc cls dx oe → (∃ vs, oe.data = .fields vs) → MSs (X.suite a ((a, oe) :: pn)) wN none (b0 :: bs) c) (hr : MCl X sub hs l)
    (hg : Gl X x := by rfl) (hd : (x == ("__debug__" : Str)) = false := by decide) :
    MCl X sub (.ExceptHandler (some (.Name x q1)) none (b0 :: bs) q2 :: hs) ((x, none, c) :: l) := by
  obtain ⟨l2, k1, k2⟩ := hr
  refine ⟨(cc, none, fun a cls dx Dn σ H => rdS (gn X) wN none c Dn σ H) :: l2, .plain ⟨hg, hd, .inl hm⟩ (fun a oe cls dx pn hz hf => hb a oe cls dx pn hz hf) k1, ?_⟩
  intro x1 v e1 st1 σ m p H cls dx Dn Wo E S r h
  unfold hdl at h
  cases q : sub x1 x with
  | none => simp only [q] at h; exact h.elim
  | some bb =>
    obtain ⟨h1, h2⟩ := T.ok x1 x bb cls cc q r.1 hm
    refine ⟨bb, h1, fun hbb a ha => ?_, fun hbb => ?_⟩
    · subst hbb
      simp only [q] at h
      refine ⟨m, p, e1, st1, E, S, ?_⟩
      cases o : c e1 st1 with
      | nx e2 st2 => rw [o] at h; exact h
      | bk e2 st2 => rw [o] at h; exact h
      | ct e2 st2 => rw [o] at h; exact h
      | rt d2 st2 => rw [o] at h; exact h
      | exc _ _ _ _ => rw [o] at h; exact h.elim
      | bad => rw [o] at h; exact h.elim
    · subst hbb
      simp only [q] at h
      exact k2 x1 v e1 st1 σ m p H cls dx Dn Wo E S r h
theorem ms_try {h0 : ExceptHandler} {body : List Stmt} (hst : X.stack = X.env :: X.outer) (hfr : X.env.frame = some X.env.locals) (tk : Takes X W)
    (hb : ∀ (W' : WX) (pn : List (Addr × Obj)) (xe : Value → Shared → Prop), Takes (X.tr pn xe) W' → PassesOwn (model X.prog X.w) X.A X.env xe → MSs (X.tr pn xe) W' none body b) (hh : MCl X sub (h0 :: hs) l) :
    MS X W none (.Try body (h0 :: hs) [] [] pos) (sTry sub b l) := by
  obtain ⟨l2, k1, k2⟩ := hh
  refine PSi (ps_tryA (tb := fun W' => rdS (gn X) W' none b) hst hfr tk (fun W' pn xe t1 t2 => hb W' pn xe t1 t2) k1) fun Dn σ H ⟨m, p, env, sto, E, S, h⟩ => ⟨m, p, env, sto, E, S, ?_⟩
  unfold sTry at h
  cases q : b env sto with
  | nx _ _ => rw [q] at h; exact h
  | rt _ _ => rw [q] at h; exact h
  | bk _ _ => rw [q] at h; exact h
  | ct _ _ => rw [q] at h; exact h
  | bad => rw [q] at h; exact h
  | exc x v e1 st1 =>
    rw [q] at h
    exact fun σ' m' H' cls dx x' E' S' r' => k2 x v e1 st1 σ' m' p H' cls dx Dn W E' S' r' (OkS.ext h x')
theorem me_xat {a q : Addr} {oe : Obj} {cls : Value} {pn : List (Addr × Obj)} {p1 p2 : Pos} (i : Nat) (hz : Zc cls (some q) oe) (hf : ∃ vs, oe.data = .fields vs) (hx : XfH X.K cls) (hi : X.N[i]? = some n := by rfl) (hv : Vis X.env.scope n := by first | exact .inl rfl | exact .inr (.inl rfl) | exact .inr (.inr rfl))
    (hd : (n == ("__debug__" : Str)) = false := by decide) (hcd : (n == ("__classdict__" : Str)) = false := by decide) (hb : attributeBase (.Name n p1) "at" X.env (eval (.Name n p1) X.env) = eval (.Name n p1) X.env := by rfl) :
    ME (X.suite a ((a, oe) :: pn)) W (some (i, a, q)) (.Attribute (.Name n p1) "at" p2) (mVar i) := by
  obtain ⟨C, rfl, T, hno⟩ := hx
  refine PEi (pe_xf T hno hz hf (pe_var (X := X.suite a ((a, oe) :: pn)) (i := i) hi hv hd hcd) hb) fun σ H Q ⟨m, p, env, st, E, S, h⟩ => ?_
  unfold mVar at h
  cases g : env[i]? with
  | none => rw [g] at h; exact h.elim
  | some o =>
    cases o with
    | none => rw [g] at h; exact h.elim
    | some d =>
      rw [g] at h
      rcases E.2 i d g with ⟨a', q', e, h1, h2, fs, v, h3, h4, h5⟩ | ⟨k, _⟩
      · cases e
        exact ⟨.ref a, h1, rfl, rfl, q, fs, v, rfl, h3, h4, OkD.now h S h5⟩
      · exact absurd rfl (k (a, q))
end
end Mi

namespace Mi
open PySem L2

/-! ## isinstance -/
def tagD (st : Sto) : D → Option String
  | .non => some "NoneType"
  | .bl _ => some "bool"
  | .int _ => some "int"
  | .str _ => some "str"
  | .tup _ => some "tuple"
  | .fl _ => some "list"
  | .rl _ => some "list"
  | .ref n => match st[n]? with
    | some (.lst _) => some "list"
    | some (.dk _) => some "dict"
    | some (.dt _) => some "dict"
    | _ => none
  | .glob _ => none
theorem tagD_rep {G : Gn} {m p : List Addr} {H : Hp} {st : Sto} {d : D} {v : V} {a : String} (S : SR G m p H st) (r : Rep G m p H d v) (h : tagD st d = some a) : TyX G.K H v (.type a) := by
  cases d with
  | non => cases h; rw [rep_non.mp r]; exact .base .non
  | bl b => cases h; rw [rep_bl.mp r]; exact .base (.bl b)
  | int b => cases h; rw [rep_int.mp r]; exact .base (.int b)
  | str b => cases h; rw [rep_str.mp r]; exact .base (.str b)
  | tup ds =>
    cases h
    obtain ⟨q, vs, rfl, h1, h2⟩ := rep_tup.mp r
    exact .base (.tup (FzT.at' h1))
  | fl ds =>
    cases h
    obtain ⟨q, vs, rfl, h1, h2⟩ := rep_fl.mp r
    exact .base (.lst h1.1)
  | rl ds =>
    cases h
    obtain ⟨q, vs, rfl, h1, h2⟩ := rep_rl.mp r
    rcases h1 with ⟨h1 | ⟨o, h1⟩, _⟩ | ⟨o, its, n, h1, h2, _⟩
    · exact .base (.lst h1)
    · exact .base (.frz h1)
    · exact .kList h1 h2
  | ref n =>
    obtain ⟨q, rfl, h1⟩ := rep_ref.mp r
    obtain ⟨o, ho, hr⟩ := S.get h1
    simp only [tagD, ho] at h
    cases o with
    | lst ys => cases h; obtain ⟨vs, h2, _⟩ := hr; exact .base (.lst h2)
    | dk ys => cases h; obtain ⟨vs, h2, _⟩ := hr; exact .base (.dK h2)
    | dt ys => cases h; obtain ⟨vs, h2, _⟩ := hr; exact .base (.dT h2)
    | ins _ _ => cases h
  | glob _ => cases h
def subB (a b : String) : Bool := a == b || (a == "bool" && b == "int")
def tagsB : List String := ["NoneType", "bool", "int", "str", "tuple", "list", "dict"]
theorem kitB_all : (tagsB.all fun a => tagsB.all fun b => decide (b = "NoneType") || decide (kitB a b = some (subB a b))) = true := by decide +kernel
theorem tagD_mem {st : Sto} {d : D} {a : String} (h : tagD st d = some a) : a ∈ tagsB := by
  cases d with
  | ref n =>
    unfold tagD at h
    cases q : st[n]? with
    | none => simp only [q] at h; cases h
    | some o => simp only [q] at h; cases o <;> cases h <;> decide
  | glob _ => cases h
  | _ => cases h; decide
theorem kit_sub {K : PySem.W.Frag} {a b : String} (ha : a ∈ tagsB) (hb : b ∈ tagsB) (hn : b ≠ "NoneType") : PySem.W.kitOne K (.type a) (.type b) = some (subB a b) := by
  have h1 := List.all_eq_true.mp (List.all_eq_true.mp kitB_all a ha) b hb
  simp only [Bool.or_eq_true, decide_eq_true_eq] at h1
  exact kit_ty (h1.resolve_left hn)
def fIsi (ts : List String) : D → Sto → Out D := fun d st => match tagD st d with
  | some a => .ok (.bl (ts.any (subB a))) st
  | none => .bad
section
variable {X : Cx} {W : WX} {xs : XSlot} {e : Expr} {c : EM} {p p1 p2 p3 pos : Pos} {x1 x2 : Str}
theorem me_isi (T : String) (hT : T ∈ tagsB ∧ T ≠ "NoneType") (he : ME X W xs e c) (hg : Gl X "isinstance") (hm : X.mg "isinstance" = none) (g1 : Gl X x1) (m1 : X.mg x1 = none) (b1 : bootBuiltins x1 = some (.type T))
    (n1 : x1 ≠ "__name__" := by decide) (d1 : (x1 == ("__debug__" : Str)) = false := by decide)
    (s0 : starEach [e, .Name x1 p1] X.env = (false, eval e X.env) :: starEach [.Name x1 p1] X.env := by rfl) (s1 : starEach [.Name x1 p1] X.env = (false, eval (.Name x1 p1) X.env) :: starEach [] X.env := by rfl)
    (hpl : (backTo pos (starEach [.Name x1 p1] X.env)).any (·.1) = false := by rfl) : ME X W xs (.Call (.Name "isinstance" p) [e, .Name x1 p1] [] pos) (mUn (fIsi [T]) c) := by
  refine PEi (pe_callB call_isi hg hm PyProof.Rows.boot_isinstance (pa_cons he (pa_cons (pe_bltn g1 m1 b1 (v := .ty T) rfl n1 d1) pa_nil s1) s0) (by decide) (by decide) s0 hpl) fun σ H Q ⟨m, p, env, st, E, S, h⟩ => ⟨m, p, env, st, E, S, h.andD fun d st1 v m1 H1 e1 s1 r1 h1 => ?_⟩
  cases q : tagD st1 d with
  | none => simp only [fIsi, q] at h1; exact h1.elim
  | some a =>
    simp only [fIsi, q] at h1
    exact ⟨v, .ty T, _, _, subB a T, rfl, .ty T, tagD_rep s1 r1 q, kit_sub (tagD_mem q) hT.1 hT.2, OkD.now h1 s1 (rep_bl.mpr (by simp))⟩
theorem me_isi2 {k : Nat} (T1 T2 : String) (hT : (T1 ∈ tagsB ∧ T1 ≠ "NoneType") ∧ T2 ∈ tagsB ∧ T2 ≠ "NoneType") (he : ME X W xs e c) (hg : Gl X "isinstance") (hm : X.mg "isinstance" = none) (g1 : Gl X x1) (m1 : X.mg x1 = none) (b1 : bootBuiltins x1 = some (.type T1))
    (g2 : Gl X x2) (m2 : X.mg x2 = none) (b2 : bootBuiltins x2 = some (.type T2))
    (n1 : x1 ≠ "__name__" := by decide) (d1 : (x1 == ("__debug__" : Str)) = false := by decide) (n2 : x2 ≠ "__name__" := by decide) (d2 : (x2 == ("__debug__" : Str)) = false := by decide)
    (s0 : starEach [e, .Tuple [.Name x1 p1, .Name x2 p2] k p3] X.env = (false, eval e X.env) :: starEach [.Tuple [.Name x1 p1, .Name x2 p2] k p3] X.env := by rfl)
    (s1 : starEach [.Tuple [.Name x1 p1, .Name x2 p2] k p3] X.env = (false, eval (.Tuple [.Name x1 p1, .Name x2 p2] k p3) X.env) :: starEach [] X.env := by rfl)
    (s2 : starEach [.Name x1 p1, .Name x2 p2] X.env = (false, eval (.Name x1 p1) X.env) :: starEach [.Name x2 p2] X.env := by rfl) (s3 : starEach [.Name x2 p2] X.env = (false, eval (.Name x2 p2) X.env) :: starEach [] X.env := by rfl)
    (hpl : (backTo pos (starEach [.Tuple [.Name x1 p1, .Name x2 p2] k p3] X.env)).any (·.1) = false := by rfl) :
    ME X W xs (.Call (.Name "isinstance" p) [e, .Tuple [.Name x1 p1, .Name x2 p2] k p3] [] pos) (mUn (fIsi [T1, T2]) c) := by
  refine PEi (pe_callB call_isiT hg hm PyProof.Rows.boot_isinstance (pa_cons he (pa_cons (pe_tup (pa_cons (pe_bltn g1 m1 b1 (v := .ty T1) rfl n1 d1) (pa_cons (pe_bltn g2 m2 b2 (v := .ty T2) rfl n2 d2) pa_nil s3) s2)) pa_nil s1) s0) (by decide) (by decide) s0 hpl)
    fun σ H Q ⟨m, p, env, st, E, S, h⟩ => ⟨m, p, env, st, E, S, h.andD fun d st1 v m1 H1 e1 s1 r1 h1 => ⟨by show 2 ≤ sizeLine; decide, fun tp hn => ?_⟩⟩
  cases q : tagD st1 d with
  | none => simp only [fIsi, q] at h1; exact h1.elim
  | some a =>
    simp only [fIsi, q] at h1
    refine ⟨v, tp, [.ty T1, .ty T2], _, [.type T1, .type T2], (subB a T1 || subB a T2), rfl, upd_same, .cons (.ty T1) (.cons (.ty T2) .nil), tagD_rep (s1.new hn) (Rep.ext (Ext.new hn) _ _ r1) q, ?_, ?_⟩
    · refine kitAny_cons (kit_sub (tagD_mem q) hT.1.1 hT.1.2) (fun hb => kitAny_cons (kit_sub (tagD_mem q) hT.2.1 hT.2.2) (fun hc => ?_) fun hc => ?_) fun hb => by rw [hb]; rfl
      · rw [hb, hc]; rfl
      · rw [hc, Bool.or_true]
    · exact h1 _ m1 _ (Ext.new hn) (s1.new hn) (rep_bl.mpr (by simp))
end

/-! ## repr -/
def fRepr : List D → Sto → Out D
  | [.int i], st => if i.natAbs.log2 < 1920 then .ok (.str (toString i)) st else .bad
  | [x], st => match toPy st x with
    | some d => if PyProof.Rows.isDisplay d = true ∧ d.showable = true ∧ d.hasDict = false ∧ d.depth ≤ 60 ∧ d.shown.length ≤ sizeLine then .ok (.str d.shown) st else .bad
    | none => .bad
  | _, _ => .bad
section
variable {X : Cx}
theorem call_reprD (hg : X.A.guards = some []) (hu : X.A.units + 65 < cLine) : CallR X (.builtin "repr") (fun xs H Q => (∃ i, xs = [V.int i] ∧ i.natAbs.log2 < 1920 ∧ Q (.str (toString i)) H) ∨
    ∃ x d, xs = [x] ∧ Dp X.K H x d ∧ PyProof.Rows.isDisplay d = true ∧ d.showable = true ∧ d.hasDict = false ∧ d.depth ≤ 60 ∧ d.shown.length ≤ sizeLine ∧ Q (.str d.shown) H) := by
  intro pins s σ H xs us Q I r h
  rcases h with ⟨i, rfl, hz, q⟩ | ⟨x, d, rfl, h1, h2, h3, h4, h5, h6, q⟩
  · obtain ⟨u, rfl, t, rfl⟩ := vals1 r
    exact PySem.P.repr_of_int hz ⟨.str _, H, I.tok _, ⟨_, rfl⟩, q⟩
  · obtain ⟨u, rfl, ru⟩ := vals1 r
    obtain ⟨as, rd⟩ := Dp.reads I d x u h1 ru
    obtain ⟨a, rfl⟩ := PyProof.Rows.isRef_of_reads rd h2
    exact repr_of_reads' rd h3 (PyData.noDict_hsm h4) hg (by omega) (fun _ _ e => e) (fun h' t tk hk => ⟨.str _, H, I.kept (t' := tk) hk, ⟨t, rfl⟩, q⟩) h6
theorem bl_repr (hg : X.A.guards = some []) (hu : X.A.units + 65 < cLine) : BlOk X (.builtin "repr") fRepr := by
  refine ⟨_, call_reprD hg hu, ?_⟩
  intro W σ m p H st ds vs Q S r h
  match ds, h with
  | [], h => exact h.elim
  | [x], h =>
    obtain ⟨v, rfl, rv⟩ := reps_1 r
    have key := fun (hx : fRepr [x] st = match toPy st x with
      | some d => if PyProof.Rows.isDisplay d = true ∧ d.showable = true ∧ d.hasDict = false ∧ d.depth ≤ 60 ∧ d.shown.length ≤ sizeLine then .ok (.str d.shown) st else .bad
      | none => .bad) => (show ∃ x d, [v] = [x] ∧ Dp X.K H x d ∧ PyProof.Rows.isDisplay d = true ∧ d.showable = true ∧ d.hasDict = false ∧ d.depth ≤ 60 ∧ d.shown.length ≤ sizeLine ∧ Q (.str d.shown) H by
        rw [hx] at h
        cases q : toPy st x with
        | none => rw [q] at h; exact h.elim
        | some d =>
          rw [q] at h
          by_cases z : PyProof.Rows.isDisplay d = true ∧ d.showable = true ∧ d.hasDict = false ∧ d.depth ≤ 60 ∧ d.shown.length ≤ sizeLine
          · simp only [if_pos z] at h
            exact ⟨v, d, rfl, dp_py S rv q, z.1, z.2.1, z.2.2.1, z.2.2.2.1, z.2.2.2.2, OkD.now h S (rep_str.mpr rfl)⟩
          · simp only [if_neg z] at h; exact h.elim)
    cases x with
    | int i =>
      by_cases z : i.natAbs.log2 < 1920
      · simp only [fRepr, if_pos z] at h
        exact .inl ⟨i, by rw [rep_int.mp rv], z, OkD.now h S (rep_str.mpr rfl)⟩
      · simp only [fRepr, if_neg z] at h; exact h.elim
    | _ => exact .inr (key rfl)
  | a :: _ :: _, h => cases a <;> exact (h : False).elim
end
end Mi

namespace Mi
open PySem L2

/-! ## dicts -/
def keyD : D → Option L2.Key
  | .int i => some (.inl i)
  | .str s => some (.inr s)
  | _ => none
def keysD : List D → Option (List L2.Key)
  | [] => some []
  | d :: r => (keyD d).bind fun k => (keysD r).map (k :: ·)
section
variable {κ : Type} [DecidableEq κ]
def valD (kvs : List (κ × D)) (k : κ) : Option D := (kvs.find? fun kv => decide (kv.1 = k)).map (·.2)
def putDk (kvs : List (κ × D)) (k : κ) (v : D) : List (κ × D) := if (kvs.any fun kv => decide (kv.1 = k)) = true then kvs.map (fun kv => if kv.1 = k then (kv.1, v) else kv) else kvs ++ [(k, v)]
variable {G : Gn} {m p : List Addr} {H : Hp}
theorem KvR.val {k : κ} : ∀ {fs : List (κ × D)} {gs : List (κ × V)}, KvR G m p H fs gs → (∀ d, valD fs k = some d → ∃ v, valV gs k = some v ∧ Rep G m p H d v) ∧ (valD fs k = none → valV gs k = none)
  | [], gs, h => by
    have e : gs = [] := h
    subst e
    exact ⟨fun d z => by simp [valD] at z, fun _ => rfl⟩
  | (f, d) :: fs, gs, h => by
    obtain ⟨v, hs, rfl, h1, h2⟩ := h
    obtain ⟨a1, a2⟩ := KvR.val (k := k) h2
    by_cases e : f = k
    · subst e
      exact ⟨fun d' z => ⟨v, valV_pos rfl, by simp [valD] at z; subst z; exact h1⟩, fun z => by simp [valD] at z⟩
    · have e1 : valD ((f, d) :: fs) k = valD fs k := by simp [valD, List.find?_cons, e]
      have e2 : valV ((f, v) :: hs) k = valV hs k := valV_neg e
      rw [e1, e2]; exact ⟨a1, a2⟩
theorem KvR.any {k : κ} : ∀ {fs : List (κ × D)} {gs : List (κ × V)}, KvR G m p H fs gs → (gs.any fun kv => decide (kv.1 = k)) = fs.any fun kv => decide (kv.1 = k)
  | [], gs, h => by rw [show gs = [] from h]; rfl
  | (f, d) :: fs, gs, h => by
    obtain ⟨v, hs, rfl, h1, h2⟩ := h
    rw [List.any_cons, List.any_cons, KvR.any h2]
theorem KvR.repl {k : κ} {d : D} {v : V} (r : Rep G m p H d v) : ∀ {fs : List (κ × D)} {gs : List (κ × V)}, KvR G m p H fs gs → KvR G m p H (fs.map fun kv => if kv.1 = k then (kv.1, d) else kv) (gs.map fun kv => if kv.1 = k then (kv.1, v) else kv)
  | [], gs, h => by rw [show gs = [] from h]; rfl
  | (f, e) :: fs, gs, h => by
    obtain ⟨w, hs, rfl, h1, h2⟩ := h
    rw [List.map_cons, List.map_cons]
    by_cases z : f = k
    · simp only [if_pos z]; exact ⟨v, _, rfl, r, KvR.repl r h2⟩
    · simp only [if_neg z]; exact ⟨w, _, rfl, h1, KvR.repl r h2⟩
theorem KvR.snoc {k : κ} {d : D} {v : V} (r : Rep G m p H d v) : ∀ {fs : List (κ × D)} {gs : List (κ × V)}, KvR G m p H fs gs → KvR G m p H (fs ++ [(k, d)]) (gs ++ [(k, v)])
  | [], gs, h => by rw [show gs = [] from h]; exact ⟨v, [], rfl, r, rfl⟩
  | (f, e) :: fs, gs, h => by
    obtain ⟨w, hs, rfl, h1, h2⟩ := h
    exact ⟨w, _, rfl, h1, KvR.snoc r h2⟩
theorem KvR.put {k : κ} {d : D} {v : V} (r : Rep G m p H d v) {fs : List (κ × D)} {gs : List (κ × V)} (h : KvR G m p H fs gs) : KvR G m p H (putDk fs k d) (putK gs k v) := by
  unfold putDk putK
  rw [h.any]
  split
  · exact h.repl r
  · exact h.snoc r
theorem KvR.length : ∀ {fs : List (κ × D)} {gs : List (κ × V)}, KvR G m p H fs gs → gs.length = fs.length
  | [], gs, h => by rw [show gs = [] from h]; rfl
  | (f, e) :: fs, gs, h => by
    obtain ⟨w, hs, rfl, h1, h2⟩ := h
    simp [KvR.length h2]
end
theorem keyD_rep {G : Gn} {m p : List Addr} {H : Hp} {d : D} {v : V} {k : L2.Key} (r : Rep G m p H d v) (h : keyD d = some k) : v = kV k := by
  cases d with
  | int i => cases h; exact rep_int.mp r
  | str i => cases h; exact rep_str.mp r
  | _ => cases h
theorem keysD_rep {G : Gn} {m p : List Addr} {H : Hp} : ∀ {ds : List D} {vs : List V} {ks : List L2.Key}, Reps G m p H ds vs → keysD ds = some ks → vs = ks.map kV
  | [], _, _, r, h => by cases h; rw [reps_nil.mp r]; rfl
  | d :: ds, _, ks, r, h => by
    obtain ⟨v, ws, rfl, h1, h2⟩ := reps_cons.mp r
    simp only [keysD, Option.bind_eq_some_iff, Option.map_eq_some_iff] at h
    obtain ⟨k, h3, l, h4, rfl⟩ := h
    rw [keyD_rep h1 h3, keysD_rep h2 h4]; rfl
def OptR (G : Gn) (m p : List Addr) (H : Hp) (o : Option D) (ov : Option V) : Prop := match o with
  | some d => ∃ w, ov = some w ∧ Rep G m p H d w
  | none => ov = none
/-- what stands in a dict of ours; none: no dict, or no key -/
def dGet (st : Sto) : D → D → Option (Option D)
  | .ref n, y => match st[n]? with
    | some (.dk kvs) => (keyD y).map (valD kvs)
    | some (.dt kvs) => match y with
      | .tup ds => (keysD ds).map (valD kvs)
      | _ => none
    | _ => none
  | _, _ => none
def dPut (st : Sto) : D → D → D → Option Sto
  | .ref n, y, d => match st[n]? with
    | some (.dk kvs) => if kvs.length < sizeLine then (keyD y).map fun k => st.set n (.dk (putDk kvs k d)) else none
    | some (.dt kvs) => match y with
      | .tup ds => if kvs.length < sizeLine then (keysD ds).map fun k => st.set n (.dt (putDk kvs k d)) else none
      | _ => none
    | _ => none
  | _, _, _ => none
section
variable {G : Gn} {m p : List Addr} {H : Hp} {st st' : Sto} {d x y : D} {v u w : V} {o : Option D}
theorem dGet_rep (S : SR G m p H st) (rx : Rep G m p H x v) (ry : Rep G m p H y u) (h : dGet st x y = some o) : ∃ a ov, v = .ref a ∧ DGet H a u ov ∧ OptR G m p H o ov := by
  cases x with
  | ref n =>
    obtain ⟨a, rfl, h1⟩ := rep_ref.mp rx
    obtain ⟨ob, ho, hr⟩ := S.get h1
    simp only [dGet, ho] at h
    cases ob with
    | dk kvs =>
      simp only [Option.map_eq_some_iff] at h
      obtain ⟨k, hk, rfl⟩ := h
      obtain ⟨ws, h2, h3⟩ := hr
      have e := keyD_rep ry hk
      subst e
      refine ⟨a, _, rfl, DGet.k h2, ?_⟩
      obtain ⟨b1, b2⟩ := KvR.val (k := k) h3
      cases q : valD kvs k with
      | some d => exact b1 d q
      | none => exact b2 q
    | dt kvs =>
      cases y with
      | tup ds =>
        simp only [Option.map_eq_some_iff] at h
        obtain ⟨k, hk, rfl⟩ := h
        obtain ⟨ws, h2, h3⟩ := hr
        obtain ⟨b, vs, rfl, g1, g2⟩ := rep_tup.mp ry
        have e := keysD_rep g2 hk
        subst e
        refine ⟨a, _, rfl, DGet.t h2 (FzT.at' g1), ?_⟩
        obtain ⟨b1, b2⟩ := KvR.val (k := k) h3
        cases q : valD kvs k with
        | some d => exact b1 d q
        | none => exact b2 q
      | _ => simp at h
    | lst _ => simp at h
    | ins _ _ => simp at h
  | _ => simp [dGet] at h
theorem dPut_rep (S : SR G m p H st) (rx : Rep G m p H x v) (ry : Rep G m p H y u) (rd : Rep G m p H d w) (h : dPut st x y d = some st') : ∃ a H', v = .ref a ∧ DPut H a u w H' ∧ Ext m H m H' ∧ SR G m p H' st' := by
  cases x with
  | ref n =>
    obtain ⟨a, rfl, h1⟩ := rep_ref.mp rx
    obtain ⟨ob, ho, hr⟩ := S.get h1
    have hm := List.mem_of_getElem? h1
    simp only [dPut, ho] at h
    cases ob with
    | dk kvs =>
      by_cases z : kvs.length < sizeLine
      · simp only [if_pos z, Option.map_eq_some_iff] at h
        obtain ⟨k, hk, rfl⟩ := h
        obtain ⟨ws, h2, h3⟩ := hr
        have e := keyD_rep ry hk
        subst e
        exact ⟨a, _, rfl, DPut.k h2 (by rw [h3.length]; exact z), Ext.chg hm, S.chg h1 ⟨_, upd_same, (h3.put rd).ext (Ext.chg hm)⟩⟩
      · simp only [if_neg z] at h; cases h
    | dt kvs =>
      cases y with
      | tup ds =>
        by_cases z : kvs.length < sizeLine
        · simp only [if_pos z, Option.map_eq_some_iff] at h
          obtain ⟨k, hk, rfl⟩ := h
          obtain ⟨ws, h2, h3⟩ := hr
          obtain ⟨b, vs, rfl, g1, g2⟩ := rep_tup.mp ry
          have e := keysD_rep g2 hk
          subst e
          exact ⟨a, _, rfl, DPut.t h2 (FzT.at' g1) (by rw [h3.length]; exact z), Ext.chg hm, S.chg h1 ⟨_, upd_same, (h3.put rd).ext (Ext.chg hm)⟩⟩
        · simp only [if_neg z] at h; cases h
      | _ => simp at h
    | lst _ => simp at h
    | ins _ _ => simp at h
  | _ => simp [dPut] at h
end

/-! ## in: lists of any depth, tuples of flat things, dicts -/
def flatD : D → Bool
  | .non => true
  | .bl _ => true
  | .int _ => true
  | .str _ => true
  | _ => false
def eqF : D → D → Bool
  | .non, .non => true
  | .bl a, .bl b => a == b
  | .bl a, .int b => (if a then 1 else 0) == b
  | .int a, .bl b => a == (if b then 1 else 0)
  | .int a, .int b => a == b
  | .str a, .str b => a == b
  | _, _ => false
theorem flat_rep {G : Gn} {m p : List Addr} {H : Hp} {d : D} {v : V} (r : Rep G m p H d v) (h : flatD d = true) : flatV v = true := by
  cases d with
  | non => rw [rep_non.mp r]; rfl
  | bl _ => rw [rep_bl.mp r]; rfl
  | int _ => rw [rep_int.mp r]; rfl
  | str _ => rw [rep_str.mp r]; rfl
  | _ => cases h
theorem eqF_rep {G : Gn} {m p : List Addr} {H : Hp} {d e : D} {v u : V} (r : Rep G m p H d v) (r2 : Rep G m p H e u) (h : flatD d = true) (h2 : flatD e = true) : eqV v u = eqF d e := by
  cases d with
  | non => rw [rep_non.mp r]; cases e with
    | non => rw [rep_non.mp r2]; rfl
    | bl _ => rw [rep_bl.mp r2]; rfl
    | int _ => rw [rep_int.mp r2]; rfl
    | str _ => rw [rep_str.mp r2]; rfl
    | _ => cases h2
  | bl _ => rw [rep_bl.mp r]; cases e with
    | non => rw [rep_non.mp r2]; rfl
    | bl _ => rw [rep_bl.mp r2]; rfl
    | int _ => rw [rep_int.mp r2]; rfl
    | str _ => rw [rep_str.mp r2]; rfl
    | _ => cases h2
  | int _ => rw [rep_int.mp r]; cases e with
    | non => rw [rep_non.mp r2]; rfl
    | bl _ => rw [rep_bl.mp r2]; rfl
    | int _ => rw [rep_int.mp r2]; rfl
    | str _ => rw [rep_str.mp r2]; rfl
    | _ => cases h2
  | str _ => rw [rep_str.mp r]; cases e with
    | non => rw [rep_non.mp r2]; rfl
    | bl _ => rw [rep_bl.mp r2]; rfl
    | int _ => rw [rep_int.mp r2]; rfl
    | str _ => rw [rep_str.mp r2]; rfl
    | _ => cases h2
  | _ => cases h
theorem flats_rep {G : Gn} {m p : List Addr} {H : Hp} {x : D} {u : V} (rx : Rep G m p H x u) (hx : flatD x = true) : ∀ {ds : List D} {vs : List V}, Reps G m p H ds vs → ds.all flatD = true → vs.all flatV = true ∧ inV u vs = ds.any fun y => eqF y x
  | [], _, r, _ => by rw [reps_nil.mp r]; exact ⟨rfl, rfl⟩
  | d :: ds, _, r, h => by
    obtain ⟨v, ws, rfl, h1, h2⟩ := reps_cons.mp r
    rw [List.all_cons, Bool.and_eq_true] at h
    obtain ⟨a1, a2⟩ := flats_rep rx hx h2 h.2
    refine ⟨by rw [List.all_cons, a1, flat_rep h1 h.1]; rfl, ?_⟩
    unfold inV at a2 ⊢
    rw [List.any_cons, List.any_cons, a2, eqF_rep h1 rx h.1 hx]
def fInA (neg : Bool) : D → D → Sto → Out D := fun x y st => match y with
  | .tup ys => if flatD x = true ∧ ys.all flatD = true then .ok (.bl (if neg = true then !ys.any (fun z => eqF z x) else ys.any fun z => eqF z x)) st else .bad
  | y => match dGet st y x with
    | some o => .ok (.bl (if neg = true then !o.isSome else o.isSome)) st
    | none => fIn neg x y st
section
variable {X : Cx}
theorem op_inDict (hu : X.A.units + 65 < cLine) : OpR X (compareOp .In) (fun y x H Q => ∃ a o, x = .ref a ∧ DGet H a y o ∧ Q (.bl o.isSome) H) := by
  intro pins s σ H x y v u Q I rx ry h
  obtain ⟨a, o, rfl, g, q⟩ := h
  obtain rfl : u = Value.ref a := ry
  exact d_in (by omega) I g rx fun s3 I3 => ⟨.bl o.isSome, H, I3, rfl, q⟩
theorem op_notInDict (hu : X.A.units + 65 < cLine) : OpR X (compareOp .NotIn) (fun y x H Q => ∃ a o, x = .ref a ∧ DGet H a y o ∧ Q (.bl (!o.isSome)) H) := by
  intro pins s σ H x y v u Q I rx ry h
  obtain ⟨a, o, rfl, g, q⟩ := h
  obtain rfl : u = Value.ref a := ry
  exact d_notIn (by omega) I g rx fun s3 I3 => ⟨.bl (!o.isSome), H, I3, rfl, q⟩
theorem isSome_of {G : Gn} {m p : List Addr} {H : Hp} {o : Option D} {ov : Option V} (h : OptR G m p H o ov) : ov.isSome = o.isSome := by
  cases o with
  | some d => obtain ⟨w, rfl, _⟩ := h; rfl
  | none => rw [show ov = none from h]; rfl
theorem bo_inA (hu : X.A.units + 65 < cLine) : BinOk X (compareOp .In) (fInA false) := by
  obtain ⟨r0, h1, h2⟩ := (bo_in (X := X) hu).ok
  refine ⟨_, OpR.or (OpR.or op_in_seq (op_inDict hu)) h1, ?_⟩
  intro W σ m p H st x y v u Q S rx ry h
  have key : (∀ ys, y ≠ .tup ys) → OkD (gn X) W m p H σ (match dGet st y x with
    | some o => .ok (.bl (if false = true then !o.isSome else o.isSome)) st
    | none => fIn false x y st) Q → (rIn X.K false v u H Q ∨ (∃ a o, u = .ref a ∧ DGet H a v o ∧ Q (.bl o.isSome) H)) ∨ r0 v u H Q := by
    intro hn h
    cases q : dGet st y x with
    | none => rw [q] at h; exact .inr (h2 W σ m p H st x y v u Q S rx ry h)
    | some o =>
      rw [q] at h
      obtain ⟨a, ov, rfl, g, e⟩ := dGet_rep S ry rx q
      refine .inl (.inr ⟨a, ov, rfl, g, ?_⟩)
      rw [isSome_of e]
      exact OkD.now h S (rep_bl.mpr rfl)
  cases y with
  | tup ys =>
    by_cases z : flatD x = true ∧ ys.all flatD = true
    · simp only [fInA, if_pos z] at h
      obtain ⟨a, ws, rfl, g1, g2⟩ := rep_tup.mp ry
      obtain ⟨b1, b2⟩ := flats_rep rx z.1 g2 z.2
      refine .inl (.inl ⟨a, ws, rfl, .inr (Fz.sqT g1), flat_rep rx z.1, b1, ?_⟩)
      rw [b2]
      exact OkD.now h S (rep_bl.mpr rfl)
    · simp only [fInA, if_neg z] at h; exact h.elim
  | _ => exact key (fun ys z => by cases z) h
theorem bo_notInA (hu : X.A.units + 65 < cLine) : BinOk X (compareOp .NotIn) (fInA true) := by
  obtain ⟨r0, h1, h2⟩ := (bo_notIn (X := X) hu).ok
  refine ⟨_, OpR.or (OpR.or op_notIn_seq (op_notInDict hu)) h1, ?_⟩
  intro W σ m p H st x y v u Q S rx ry h
  have key : (∀ ys, y ≠ .tup ys) → OkD (gn X) W m p H σ (match dGet st y x with
    | some o => .ok (.bl (if true = true then !o.isSome else o.isSome)) st
    | none => fIn true x y st) Q → (rIn X.K true v u H Q ∨ (∃ a o, u = .ref a ∧ DGet H a v o ∧ Q (.bl (!o.isSome)) H)) ∨ r0 v u H Q := by
    intro hn h
    cases q : dGet st y x with
    | none => rw [q] at h; exact .inr (h2 W σ m p H st x y v u Q S rx ry h)
    | some o =>
      rw [q] at h
      obtain ⟨a, ov, rfl, g, e⟩ := dGet_rep S ry rx q
      refine .inl (.inr ⟨a, ov, rfl, g, ?_⟩)
      rw [isSome_of e]
      exact OkD.now h S (rep_bl.mpr rfl)
  cases y with
  | tup ys =>
    by_cases z : flatD x = true ∧ ys.all flatD = true
    · simp only [fInA, if_pos z] at h
      obtain ⟨a, ws, rfl, g1, g2⟩ := rep_tup.mp ry
      obtain ⟨b1, b2⟩ := flats_rep rx z.1 g2 z.2
      refine .inl (.inl ⟨a, ws, rfl, .inr (Fz.sqT g1), flat_rep rx z.1, b1, ?_⟩)
      rw [b2]
      exact OkD.now h S (rep_bl.mpr rfl)
    · simp only [fInA, if_neg z] at h; exact h.elim
  | _ => exact key (fun ys z => by cases z) h
end
end Mi

namespace Mi
open PySem L2

/-! ## x[i], x[i] = v: dicts, too -/
def fIxA : D → D → Sto → Out D := fun x y st => match dGet st x y with
  | some (some d) => .ok d st
  | some none => .bad
  | none => fIx x y st
section
variable {X : Cx} {W : WX} {xs : XSlot} {a b i e : Expr} {pos tpos : Pos} {ca cb ci c : EM}
theorem ix_dict (hu : X.A.units + 65 < cLine) : IxR X (fun x y H Q => ∃ a v, x = .ref a ∧ DGet H a y (some v) ∧ Q v H) := by
  intro value slice pins s σ H x y v u Q I rx ry h hs
  obtain ⟨a, w, rfl, g, q⟩ := h
  obtain rfl : v = Value.ref a := rx
  exact PyProof.Rows.tail_any (dict_typeIs I g) PySem.F.slot_dict_getitem.lookup (d_getItem (by omega) I g ry fun w' s3 I3 rw' => ⟨w, H, I3, rw', q⟩) hs
theorem vop_ixA {G : Gn} : VOp G (fun x y H Q => rIx G.K x y H Q ∨ ∃ a v, x = .ref a ∧ DGet H a y (some v) ∧ Q v H) fIxA := by
  intro W σ m p H st x y v u Q S rx ry h
  unfold fIxA at h
  cases q : dGet st x y with
  | none => rw [q] at h; exact .inl (vop_ix W σ m p H st x y v u Q S rx ry h)
  | some o =>
    cases o with
    | none => rw [q] at h; exact h.elim
    | some d =>
      rw [q] at h
      obtain ⟨a, ov, rfl, g, w, rfl, r⟩ := dGet_rep S rx ry q
      exact .inr ⟨a, w, rfl, g, OkD.now h S r⟩
theorem me_ixA (hu : X.A.units + 65 < cLine) (ha : ME X W xs a ca) (hb : ME X W xs b cb) (hs : PlainIx b := by exact fun _ _ => rfl) : ME X W xs (.Subscript a b pos) (mBin fIxA ca cb) :=
  PEi (pe_ix (ix_seq.or (ix_dict hu)) ha hb hs) (rdBin vop_ixA)
def setA (x i d : D) (st : Sto) : Option Sto := match dPut st x i d with
  | some st' => some st'
  | none => setD x i d st
theorem set_dict (hu : X.A.units + 65 < cLine) : PSet X (fun o i v H Q => ∃ a H', o = .ref a ∧ DPut H a i v H' ∧ Q H') := by
  intro pins s σ H o i v ov iv u Q I ro ri rv h
  obtain ⟨a, H', rfl, g, q⟩ := h
  obtain rfl : ov = Value.ref a := ro
  exact d_setItem (by omega) I g ri rv fun s4 I4 => ⟨H', I4, q⟩
theorem PSor {X : Cx} {t t' : TSet} (h : PSet X t) (h' : PSet X t') : PSet X (fun o i v H Q => t o i v H Q ∨ t' o i v H Q) := fun pins s σ H o i v ov iv u Q I ro ri rv q => q.elim (h pins s σ H o i v ov iv u Q I ro ri rv) (h' pins s σ H o i v ov iv u Q I ro ri rv)
/-- what setA does, by values -/
theorem setA_rep {G : Gn} {m p : List Addr} {H : Hp} {st st' : Sto} {x k d : D} {o u v : V} {Q : Hp → Prop} (S : SR G m p H st) (rx : Rep G m p H x o) (rk : Rep G m p H k u) (rd : Rep G m p H d v) (h : setA x k d st = some st') (hQ : ∀ H', Ext m H m H' → SR G m p H' st' → Q H') :
    rSetL o u v H Q ∨ ∃ a H', o = .ref a ∧ DPut H a u v H' ∧ Q H' := by
  unfold setA at h
  cases q : dPut st x k d with
  | some st2 =>
    rw [q] at h; cases h
    obtain ⟨a, H', e, g, x', s'⟩ := dPut_rep S rx rk rd q
    exact .inr ⟨a, H', e, g, hQ H' x' s'⟩
  | none =>
    rw [q] at h
    refine .inl ?_
    cases x with
    | ref n =>
      obtain ⟨ad, rfl, h1⟩ := rep_ref.mp rx
      cases q1 : st[n]? with
      | none => simp [setD, q1] at h
      | some ob =>
        cases ob with
        | lst ys =>
          simp only [setD, q1] at h
          obtain ⟨ws, h2, h3⟩ := S.ob n ad _ h1 q1
          cases k with
          | int k =>
            simp only [Option.map_eq_some_iff] at h
            obtain ⟨j, q2, rfl⟩ := h
            exact ⟨ad, ws, k, j, rfl, rep_int.mp rk, h2, by rw [h3.length]; exact q2, hQ _ (Ext.chg (List.mem_of_getElem? h1)) (S.lchg h1 (h3.set rd))⟩
          | _ => simp at h
        | dk _ => simp [setD, q1] at h
        | dt _ => simp [setD, q1] at h
        | ins _ _ => simp [setD, q1] at h
    | _ => simp [setD] at h
def hSubA (ca ci : EM) : HM := fun d env st => (ca env st).opt fun x st1 => (ci env st1).opt fun i st2 => (setA x i d st2).map fun st3 => (env, st3)
theorem mh_subA (hu : X.A.units + 65 < cLine) (ha : ME X W xs a ca) (hi : ME X W xs i ci) (hs : ∀ v, assign (.Subscript a i pos) X.env v = (do
      let ov ← holding [v] (eval a X.env)
      let iv ← holding [v, ov] (eval i X.env)
      standAt pos
      holding [v, ov, iv] (setItem ov iv v)
      release [v, ov, iv] []) := by intro _; rfl) : MH X W xs (.Subscript a i pos) (hSubA ca ci) := by
  refine ⟨_, pg_sub ha hi (PSor set_list (set_dict hu)) hs, fun σ H Q m p env st d v E S r z => ⟨m, p, env, st, E, S, OkG.andD (xs := xs) (Q := Q) z fun x st1 o m1 H1 e1 s1 r1 z1 => ⟨m1, p, env, st1, E.ext e1, s1, z1.andD fun k st2 u m2 H2 e2 s2 r2 z2 => ?_⟩⟩⟩
  cases q : setA x k d st2 with
  | none => simp only [q] at z2; exact z2.elim
  | some st3 =>
    simp only [q, Option.map_some] at z2
    exact setA_rep s2 (Rep.ext e2 _ _ r1) r2 (Rep.ext (e1.trans e2) _ _ r) q fun H' x' s' => z2 σ m2 H' x' ((E.ext (e1.trans e2)).ext x') s'
theorem pget_ix (hu : X.A.units + 65 < cLine) : PGet X (fun x y H Q => ∃ a v, x = .ref a ∧ DGet H a y (some v) ∧ Q v H) := by
  intro pins s σ H o i ov iv Q I ro ri h
  obtain ⟨a, w, rfl, g, q⟩ := h
  obtain rfl : ov = Value.ref a := ro
  exact d_getItem (by omega) I g ri fun w' s3 I3 rw' => ⟨w, H, I3, rw', q⟩

/-! ## {} -/
def mDk : EM := fun _ st => .ok (.ref st.length) (st ++ [.dk []])
def mDt : EM := fun _ st => .ok (.ref st.length) (st ++ [.dt []])
theorem me_dk : ME X W xs (.Dict [] [] pos) mDk := PEi pe_dnewK fun σ H Q ⟨m, p, env, st, E, S, h⟩ q hq =>
  h (.ref q) (m ++ [q]) _ (Ext.own hq) (S.own hq ⟨[], upd_same, rfl⟩) (rep_ref.mpr ⟨q, rfl, by rw [← S.len]; simp⟩)
theorem me_dt : ME X W xs (.Dict [] [] pos) mDt := PEi pe_dnewT fun σ H Q ⟨m, p, env, st, E, S, h⟩ q hq =>
  h (.ref q) (m ++ [q]) _ (Ext.own hq) (S.own hq ⟨[], upd_same, rfl⟩) (rep_ref.mpr ⟨q, rfl, by rw [← S.len]; simp⟩)

/-! ## fields -/
structure Flds (X : Cx) (tab : List (Str × Str)) : Prop where
  ok : ∀ c f C, (c, f) ∈ tab → X.mg c = some (.ref C) → Cls X.K C ∧ NoAttr X.K C f
def clsB (K : PySem.W.Frag) (C : Addr) : Bool := PySem.W.plainGet K C Str.empty && (PySem.W.hasDictIn K C && (PySem.W.plainOver K C && decide (PySem.W.findIn K (.ref C) "__setattr__" = some (some (.builtin "object.__setattr__")))))
def fldB (K : PySem.W.Frag) (mg : Str → Option Value) (tab : List (Str × Str)) : Bool := tab.all fun r => match mg r.1 with
  | some (.ref C) => clsB K C && decide (PySem.W.findIn K (.ref C) r.2 = some none)
  | _ => false
theorem clsB_ok {K : PySem.W.Frag} {C : Addr} (h : clsB K C = true) : Cls K C := by
  simp only [clsB, Bool.and_eq_true, decide_eq_true_eq] at h
  exact ⟨h.1, h.2.1, h.2.2.1, h.2.2.2⟩
theorem Flds.of {tab : List (Str × Str)} (h : fldB X.K X.mg tab = true) : Flds X tab := by
  refine ⟨fun c f C hm hc => ?_⟩
  have h1 := List.all_eq_true.mp h _ hm
  rw [hc] at h1
  simp only [Bool.and_eq_true, decide_eq_true_eq] at h1
  exact ⟨clsB_ok h1.1, h1.2⟩
def getF (tab : List (Str × Str)) (f : Str) (x : D) (st : Sto) : Option D := match x with
  | .ref n => match st[n]? with
    | some (.ins c fs) => if (c, f) ∈ tab then valD fs f else none
    | _ => none
  | _ => none
def setF (tab : List (Str × Str)) (f : Str) (x d : D) (st : Sto) : Option Sto := match x with
  | .ref n => match st[n]? with
    | some (.ins c fs) => if (c, f) ∈ tab ∧ fs.length < 1000 then some (st.set n (.ins c (putD fs f d))) else none
    | _ => none
  | _ => none
def mFld (tab : List (Str × Str)) (f : Str) (c : EM) : EM := fun env st => (c env st).bind fun x st1 => match getF tab f x st1 with
  | some d => .ok d st1
  | none => .bad
theorem lookup_valV {f : Str} : ∀ {gs : List (Str × V)}, gs.lookup f = valV gs f
  | [] => rfl
  | (g, v) :: gs => by
    by_cases e : g = f
    · subst e; rw [valV_pos rfl]; simp [List.lookup]
    · have e2 : (f == g) = false := by simpa using fun z => e z.symm
      rw [valV_neg e, ← lookup_valV]
      simp [List.lookup, e2]
theorem KvR.putF {G : Gn} {m p : List Addr} {H : Hp} {f : Str} {d : D} {v : V} (r : Rep G m p H d v) : ∀ {fs : List (Str × D)} {gs : List (Str × V)}, KvR G m p H fs gs → KvR G m p H (putD fs f d) (L2.putF f v gs)
  | [], gs, h => by rw [show gs = [] from h]; exact ⟨v, [], rfl, r, rfl⟩
  | (g, e) :: fs, gs, h => by
    obtain ⟨w, hs, rfl, h1, h2⟩ := h
    unfold putD L2.putF
    by_cases z : g = f
    · rw [if_pos z, if_pos z]; exact ⟨v, hs, rfl, r, h2⟩
    · rw [if_neg z, if_neg z]; exact ⟨w, _, rfl, h1, KvR.putF r h2⟩
theorem getF_rep {m p : List Addr} {H : Hp} {st : Sto} {x d : D} {v : V} {tab : List (Str × Str)} {f : Str} (T : Flds X tab) (S : SR (gn X) m p H st) (rx : Rep (gn X) m p H x v) (h : getF tab f x st = some d) :
    ∃ a C dx fs w, v = .ref a ∧ H a = some (.ins C dx fs) ∧ Cls X.K C ∧ NoAttr X.K C f ∧ fs.lookup f = some w ∧ Rep (gn X) m p H d w := by
  cases x with
  | ref n =>
    obtain ⟨a, rfl, h1⟩ := rep_ref.mp rx
    obtain ⟨ob, ho, hr⟩ := S.get h1
    simp only [getF, ho] at h
    cases ob with
    | ins c fs =>
      obtain ⟨C, dx, gs, hc, h2, h3⟩ := hr
      by_cases z : (c, f) ∈ tab
      · simp only [if_pos z] at h
        obtain ⟨t1, t2⟩ := T.ok c f C z hc
        obtain ⟨w, q1, q2⟩ := (KvR.val (k := f) h3).1 d h
        exact ⟨a, C, dx, gs, w, rfl, h2, t1, t2, by rw [lookup_valV]; exact q1, q2⟩
      · simp only [if_neg z] at h; cases h
    | dk _ => simp at h
    | dt _ => simp at h
    | lst _ => simp at h
  | _ => simp [getF] at h
theorem setF_rep {m p : List Addr} {H : Hp} {st st' : Sto} {x d : D} {v u : V} {tab : List (Str × Str)} {f : Str} (T : Flds X tab) (S : SR (gn X) m p H st) (rx : Rep (gn X) m p H x v) (rd : Rep (gn X) m p H d u) (h : setF tab f x d st = some st') :
    ∃ a C dx fs, v = .ref a ∧ H a = some (.ins C dx fs) ∧ Cls X.K C ∧ NoAttr X.K C f ∧ fs.length < 1000 ∧ Ext m H m (upd H a (.ins C dx (L2.putF f u fs))) ∧ SR (gn X) m p (upd H a (.ins C dx (L2.putF f u fs))) st' := by
  cases x with
  | ref n =>
    obtain ⟨a, rfl, h1⟩ := rep_ref.mp rx
    obtain ⟨ob, ho, hr⟩ := S.get h1
    have hm := List.mem_of_getElem? h1
    simp only [setF, ho] at h
    cases ob with
    | ins c fs =>
      obtain ⟨C, dx, gs, hc, h2, h3⟩ := hr
      by_cases z : (c, f) ∈ tab ∧ fs.length < 1000
      · simp only [if_pos z, Option.some.injEq] at h
        subst h
        obtain ⟨t1, t2⟩ := T.ok c f C z.1 hc
        exact ⟨a, C, dx, gs, rfl, h2, t1, t2, by rw [h3.length]; exact z.2, Ext.chg hm, S.chg h1 ⟨C, dx, _, hc, upd_same, (h3.putF rd).ext (Ext.chg hm)⟩⟩
      · simp only [if_neg z] at h; cases h
    | dk _ => simp at h
    | dt _ => simp at h
    | lst _ => simp at h
  | _ => simp [setF] at h
theorem me_fld {tab : List (Str × Str)} {f : Str} (T : Flds X tab) (ha : ME X W xs a ca) (hb : attributeBase a f X.env (eval a X.env) = eval a X.env := by rfl) : ME X W xs (.Attribute a f pos) (mFld tab f ca) :=
  PEi (pe_fld ha hb) fun σ H Q ⟨m, p, env, st, E, S, h⟩ => ⟨m, p, env, st, E, S, h.andD fun x st1 v m1 H1 e1 s1 r1 h1 => by
    cases q : getF tab f x st1 with
    | none => simp only [q] at h1; exact h1.elim
    | some d =>
      simp only [q] at h1
      obtain ⟨ad, C, dx, fs, w, e, g1, g2, g3, g4, g5⟩ := getF_rep T s1 r1 q
      exact ⟨ad, C, dx, fs, w, e, g1, g2, g3, g4, OkD.now h1 s1 g5⟩⟩
/-- o.f = e -/
def sFld (tab : List (Str × Str)) (f : Str) (ca c : EM) : SM := fun e st => (c e st).toS e fun d st1 => (ca e st1).toS e fun x st2 => match setF tab f x d st2 with
  | some st3 => .nx e st3
  | none => .bad
theorem ms_fld {tab : List (Str × Str)} {f : Str} {pos' : Pos} (T : Flds X tab) (ha : ME X W xs a ca) (hv : ME X W xs e c) (hs : swapsWith e (some (.Attribute a f pos')) pos.line X.env = pure false := by rfl) :
    MS X W xs (.Assign [.Attribute a f pos'] e pos) (sFld tab f ca c) :=
  PSi (ps_fld ha hv hs) fun Dn σ H ⟨m, p, env, sto, E, S, h⟩ => ⟨m, p, env, sto, E, S, h.andD E fun d st1 v m1 H1 e1 s1 r1 h1 => ⟨m1, p, env, st1, E.ext e1, s1, h1.andD (E.ext e1) fun x st2 u m2 H2 e2 s2 r2 h2 => by
    cases q : setF tab f x d st2 with
    | none => simp only [q] at h2; exact h2.elim
    | some st3 =>
      simp only [q] at h2
      obtain ⟨ad, C, dx, fs, e0, g1, g2, g3, g4, g5, g6⟩ := setF_rep T s2 r2 (Rep.ext e2 _ _ r1) q
      exact ⟨ad, C, dx, fs, e0, g1, g2, g3, g4, h2 σ m2 _ g5 ((E.ext (e1.trans e2)).ext g5) g6⟩⟩⟩

/-! ## C(..): a new instance -/
theorem guards_make {A : Around} {C : Addr} {us : List Value} {kw : List (Str × Value)} : (A.under (.builtin "type.__call__" ⟨.ref C :: us, kw⟩)).guards = A.guards := by
  have h : (Code.builtin "type.__call__" ⟨.ref C :: us, kw⟩).guards = [] := by
    unfold Code.guards
    have hb : (guardIds.contains "type.__call__") = false := by decide
    have hc : (Code.builtin "type.__call__" ⟨.ref C :: us, kw⟩).isGuard = false := hb
    rw [hc]; rfl
  have h2 : (A.under (.builtin "type.__call__" ⟨.ref C :: us, kw⟩)).guards = pushGuards (Code.builtin "type.__call__" ⟨.ref C :: us, kw⟩).guards A.guards := by unfold Around.under; rfl
  rw [h2, h]
  cases A.guards <;> rfl
structure CalC (P : Program) (w : World) (K : PySem.W.Frag) (mg : Str → Option Value) (base : Heap) (k : Nat) (x : Str) (n : Nat) (ks : List Str) (π : List Nat) (F : List D → Sto → Out D) : Prop where
  ex : ∃ C f fd ps, mg x = some (.ref C) ∧ Mk K C f ∧ BindK fd ps (n + 1) ks π ∧ FnG P w K mg base k f fd ps F ∧ π.length = ps.length ∧ ∀ i ∈ π, i < n + 1 + ks.length
/-- what follows __init__ -/
def madeD (n : Nat) (o : Out D) : Out D := match o with
  | .ok .non st => .ok (.ref n) st
  | .exc x v st => .exc x v st
  | _ => .bad
def mMake (x : Str) (F : List D → Sto → Out D) (n m : Nat) (π : List Nat) (a k : AM) : EM := fun env st => (a env st).bind fun ds st1 => (k env st1).bind fun es st2 =>
  if ds.length = n ∧ es.length = m then madeD st2.length (F (sel π (.ref st2.length :: (ds ++ es))) (st2 ++ [.ins x []])) else .bad
end
section
variable {X : Cx} {W : WX} {xs : XSlot} {e : Expr} {es : List Expr} {kws : List Keyword} {p pos : Pos} {r rk : AM} {x : Str} {ks : List Str} {π : List Nat} {F : List D → Sto → Out D} {k n : Nat}
theorem make_fin {pins : List (Addr × Obj)} {σ : L2.St} {H : Hp} {s : Shared} {Q : VK} {us ws : List Value} {vs zs : List V} {m po : List Addr} {ds dz : List D} {st : Sto} {C f : Addr} {fd : FuncData} {ps : List Str} (tk : Takes X W) (hr : Room (k + 1) X.A) (hgd : X.A.guards = some []) (hm : X.mg x = some (.ref C))
    (M : Mk X.K C f) (B : BindK fd ps (n + 1) ks π) (F' : FnG X.prog X.w X.K X.mg X.base k f fd ps F) (hp1 : π.length = ps.length) (hp2 : ∀ i ∈ π, i < n + 1 + ks.length) (I : Inv X pins σ H s) (r : Vals vs us) (rz : Vals zs ws) (q1 : Reps (gn X) m po H ds vs) (q2 : Reps (gn X) m po H dz zs) (S : SR (gn X) m po H st)
    (ho : OkD (gn X) W m po H σ (if ds.length = n ∧ dz.length = ks.length then madeD st.length (F (sel π (.ref st.length :: (ds ++ dz))) (st ++ [.ins x []])) else .bad) Q) :
    wpAny (model X.prog X.w) X.A (call (.ref C) us (ks.zip ws)) (EP X pins σ Q) X.xe s := by
  by_cases z : ds.length = n ∧ dz.length = ks.length
  · rw [if_pos z] at ho
    have l1 : us.length = n := by rw [← r.length, q1.length, z.1]
    have l2 : ws.length = ks.length := by rw [← rz.length, q2.length, z.2]
    have I2 := Inv.made (C := C) I
    have hf1 : H s.heap.objs.size = none := I.hok.fresh (Nat.le_refl _)
    have hf2 : upd H s.heap.objs.size (.own (s.heap.objs.size + 1)) (s.heap.objs.size + 1) = none := by
      rw [upd_ne (Nat.succ_ne_self _)]; exact I.hok.fresh (Nat.le_succ _)
    have E1 : Ext m H (m ++ [s.heap.objs.size + 1]) (upd (upd H s.heap.objs.size (.own (s.heap.objs.size + 1))) (s.heap.objs.size + 1) (.ins C s.heap.objs.size [])) := (Ext.new hf1).trans (Ext.own hf2)
    have S1 := (S.new (o := .own (s.heap.objs.size + 1)) hf1).own (o := .ins C s.heap.objs.size []) (u := .ins x []) hf2 ⟨C, _, [], hm, upd_same, rfl⟩
    have rself : Rep (gn X) (m ++ [s.heap.objs.size + 1]) po (upd (upd H s.heap.objs.size (.own (s.heap.objs.size + 1))) (s.heap.objs.size + 1) (.ins C s.heap.objs.size [])) (.ref st.length) (.ref (s.heap.objs.size + 1)) :=
      rep_ref.mpr ⟨_, rfl, by rw [← S.len]; simp⟩
    have rall := reps_cons.mpr ⟨_, _, rfl, rself, (Reps.ext E1 _ _ (q1.append q2))⟩
    have hl : (sel π (D.ref st.length :: (ds ++ dz))).length = ps.length := (sel_len fun i hi => by rw [List.length_cons, List.length_append, z.1, z.2]; have := hp2 i hi; omega).trans hp1
    have bnd := B (Value.ref (s.heap.objs.size + 1) :: us) ws (by rw [List.length_cons, l1]) l2
    rw [List.cons_append] at bnd
    have goal := F'.run (X.A.under (.builtin "type.__call__" ⟨.ref C :: us, ks.zip ws⟩)) X.stack _ _ ⟨Value.ref (s.heap.objs.size + 1) :: us, ks.zip ws⟩ (sel π (Value.ref (s.heap.objs.size + 1) :: (us ++ ws))) (sel π (V.ref (s.heap.objs.size + 1) :: (vs ++ zs)))
      (fun v H2 => v = .non ∧ Q (.ref (s.heap.objs.size + 1)) H2) (fun cls dx H' => W cls dx σ H') (hr.make C us (ks.zip ws)) (guards_make.trans hgd) (I2.env0.make C us (ks.zip ws)) (.of_eq bnd) (sel_vals (show Vals (V.ref (s.heap.objs.size + 1) :: (vs ++ zs)) (Value.ref (s.heap.objs.size + 1) :: (us ++ ws)) from .cons rfl (r.append rz)) π)
      ⟨_, po, _, _, sel_reps rall π, S1, hl, ?_⟩
    · refine wpAny_call (make_map (f := f) I.kIn M.makes M.init (beq_iff_eq.mp M.fn) (codeAny_mono goal fun res s' hq => ?_))
      cases res with
      | error e => exact tk e s' (XE.of_call I2 (fun _ _ _ z => z) hq)
      | ok fl =>
        cases fl with
        | ret u =>
          obtain ⟨v, H', I3, rv, ev, q3⟩ := I2.after hq
          subst ev
          exact ⟨rv, ⟨V.ref (s.heap.objs.size + 1), H', I3, rfl, q3⟩⟩
        | next => exact (hq : False).elim
        | brk => exact (hq : False).elim
        | cont => exact (hq : False).elim
    · cases q : F (sel π (.ref st.length :: (ds ++ dz))) (st ++ [.ins x []]) with
      | ok d st' =>
        rw [q] at ho
        cases d with
        | non =>
          intro v m' H' x' s' rv
          refine ⟨rep_non.mp rv, ho (.ref _) m' H' (E1.trans x') s' (rep_ref.mpr ⟨_, rfl, x'.idx ?_⟩)⟩
          rw [← S.len]; simp
        | _ => exact ho.elim
      | exc y v st' => rw [q] at ho; exact fun m' H' cls dx x' s' rv => ho m' H' cls dx (E1.trans x') s' rv
      | bad => rw [q] at ho; exact ho.elim
  · rw [if_neg z] at ho; exact ho.elim
variable (tk : Takes X W) (hr : Room (k + 1) X.A) (hgd : X.A.guards = some []) (C : CalC X.prog X.w X.K X.mg X.base k x n ks π F) (hg : Gl X x)
include tk hr hgd C hg
/-- C(e, ..) -/
theorem me_make (hks : ks = []) (ha : MA X W xs (e :: es) r) (hdb : (x == ("__debug__" : Str)) = false := by decide) (he : starEach (e :: es) X.env = (false, eval e X.env) :: starEach es X.env := by rfl)
    (hpl : (backTo pos (starEach es X.env)).any (·.1) = false := by rfl) : ME X W xs (.Call (.Name x p) (e :: es) [] pos) (mMake x F n 0 π r aNil) := by
  subst hks
  obtain ⟨C, f, fd, ps, hm, M, B, F', hp1, hp2⟩ := C.ex
  refine ⟨fun pins s σ H Q I ⟨m, po, env, st, E, S, h⟩ => ?_⟩
  refine wpAny_Call_Name_kw (ld_glob I hg hm ?_ hdb)
  refine PySem.W.callWith_K (h₀ := X.base) I.ok.mod.kin M.kp (thn (ha.run pos pins s σ H _ I ⟨m, po, env, st, E, S, h.andA fun ds st1 vs m1 H1 e1 s1 r1 h1 => (show ∃ m1 ds st1, Reps (gn X) m1 po H1 ds vs ∧ SR (gn X) m1 po H1 st1 ∧
      OkD (gn X) W m1 po H1 σ (if ds.length = n ∧ ([] : List D).length = ([] : List Str).length then madeD st1.length (F (sel π (.ref st1.length :: (ds ++ []))) (st1 ++ [.ins x []])) else .bad) Q from ⟨m1, ds, st1, r1, s1, h1⟩)⟩)
    fun us s1 ⟨vs, H1, I1, rv, m1, ds, st1, r1, s1', h1⟩ => ⟨I1.kIn, ?_⟩) he hpl
  exact make_fin (ks := []) (ws := []) (zs := []) (dz := []) tk hr hgd hm M B F' hp1 hp2 I1 rv .nil r1 (reps_nil.mpr rfl) s1' h1
/-- C(k = v, ..) -/
theorem me_makeK0 (hn : n = 0) (hkw : MK X W xs kws rk) (hall : (backToKw pos (keywordEach kws X.env)).all (·.1.isSome) = true := by rfl) (hks : (backToKw pos (keywordEach kws X.env)).filterMap (·.1) = ks := by rfl)
    (hdb : (x == ("__debug__" : Str)) = false := by decide) (hpl : ((backTo pos (starEach [] X.env)).any (·.1) || (backToKw pos (keywordEach kws X.env)).any (·.1.isNone)) = false := by rfl) :
    ME X W xs (.Call (.Name x p) [] kws pos) (mMake x F 0 ks.length π aNil rk) := by
  subst hn
  obtain ⟨C, f, fd, ps, hm, M, B, F', hp1, hp2⟩ := C.ex
  refine ⟨fun pins s σ H Q I ⟨m, po, env, st, E, S, h⟩ => ?_⟩
  refine wpAny_Call_Name_kw (ld_glob I hg hm ?_ hdb)
  refine PySem.W.callWith_KW0 (h₀ := X.base) I.ok.mod.kin M.kp hall ?_ hpl
  refine thn (hkw.run pos pins s σ H _ I ⟨m, po, env, st, E, S, OkD.andA (show OkD (gn X) W m po H σ ((rk env st).bind fun es st2 => if ([] : List D).length = 0 ∧ es.length = ks.length then madeD st2.length (F (sel π (.ref st2.length :: ([] ++ es))) (st2 ++ [.ins x []])) else .bad) Q from h) fun ds st1 vs m1 H1 e1 s1 r1 h1 =>
    (show ∃ m1 ds st1, Reps (gn X) m1 po H1 ds vs ∧ SR (gn X) m1 po H1 st1 ∧ OkD (gn X) W m1 po H1 σ (if ([] : List D).length = 0 ∧ ds.length = ks.length then madeD st1.length (F (sel π (.ref st1.length :: ([] ++ ds))) (st1 ++ [.ins x []])) else .bad) Q from ⟨m1, ds, st1, r1, s1, h1⟩)⟩)
    fun ws s1 ⟨zs, H1, I1, rz, m1, dz, st1, r1, s1', h1⟩ => ⟨I1.kIn, ?_⟩
  rw [hks]
  exact make_fin (ds := []) (vs := []) (us := []) tk hr hgd hm M B F' hp1 hp2 I1 .nil rz (reps_nil.mpr rfl) r1 s1' h1
end
end Mi

namespace Mi
open PySem PyProof.Rows SrtO Srt

/-! ## sorted(tuple) -/
section
variable {prog : Program} {w : World} {A : Around} {E : Value → Shared → Prop} {s : Shared}
theorem collectT {l : Addr} {vs : List Value} {Q : List Value → Shared → Prop} (hl : IsTup s.heap l vs.toArray)
    (h : Q vs { s with heap := (s.heap.push (seqObj "list" #[] 0)).update s.heap.objs.size (Obj.mapSeq (· ++ vs.toArray)) }) (hz : vs.length ≤ sizeLine) :
    wpAny (model prog w) A (collect (.ref l)) Q E s := by
  obtain ⟨o, ho, hc, n, hd⟩ := id hl
  unfold collect
  refine wpAny_bind (wpAny_runValue (codeAny_builtin entry_proto_collect' ?_))
  show wpAny _ _ (do again (.builtin "list.__iadd__" ⟨[← newList [], .ref l], []⟩)) _ _ s
  refine wpAny_bind (wpAny_newList (wpAny_pure ⟨Code.quiet_builtin _ (by decide +kernel), codeAny_builtin entry_list_iadd' ?_⟩))
  show wpAny _ _ (Builtin.List.listExtendWith (.ref s.heap.objs.size) (.ref l) (.ref s.heap.objs.size)) _ _ { s with heap := s.heap.push (seqObj "list" #[] 0) }
  unfold Builtin.List.listExtendWith
  have up : (s.heap.push (seqObj "list" #[] 0)).get? l = some o := Heap.get?_push_of_some _ ho
  refine wpAny_bind (wpAny_typeOf (T := "tuple") ⟨o, up, hc⟩ ?_)
  have tt : (Value.type "tuple" == Value.type "tuple") = true := by rfl
  rw [if_pos (by rw [tt]; simp)]
  refine wpAny_bind (listItems_at up hd ?_)
  refine wpAny_bind (listItems_at (xs := #[]) (n := 0) (Heap.get?_push_size _ rfl) rfl ?_)
  rw [if_neg (by simp)]
  refine wpAny_bind (listUpdate_at (xs := #[]) (n := 0) (Heap.get?_push_size _ rfl) rfl ?_ (Nat.zero_le _) (by show (#[] ++ vs.toArray).size ≤ sizeLine + 1; simp only [Array.size_append, List.size_toArray, List.length_nil]; omega))
  refine wpAny_pure ?_
  show wpAny (model prog w) A (do
      let ob ← load s.heap.objs.size
      match ob.data with
      | .seq xs _ => pure xs.toList
      | _ => unsupported "internal:collect") Q E { s with heap := (s.heap.push (seqObj "list" #[] 0)).update s.heap.objs.size (Obj.mapSeq (· ++ vs.toArray)) }
  refine wpAny_bind (wpAny_load (get?_update_seq (Heap.get?_push_size _ rfl) _) ?_)
  show wpAny _ _ (pure ((#[] : Array Value) ++ vs.toArray).toList) Q E _
  have e0 : ((#[] : Array Value) ++ vs.toArray).toList = vs := by simp
  rw [e0]
  exact wpAny_pure h
/-- sorted of a list or of a tuple -/
theorem sortedLT {l : Addr} {vs : List Value} {ltv : Value → Value → Bool} {Q : Value → Shared → Prop} (O : Swo ltv) (hl : s.heap.IsList l vs.toArray ∨ IsTup s.heap l vs.toArray) (hz : vs.length ≤ sizeLine)
    (hS : 2 ≤ vs.length → ∀ (h₁ : Heap) (a : Addr), h₁.get? a = some (seqObj "list" vs.toArray 0) → (∀ b o, s.heap.get? b = some o → b ≠ a ∧ h₁.get? b = some o) → SortableO prog w A.in1.in1 { s with heap := h₁ } a vs ltv)
    (h : ∀ out : List Value, Srtd ltv out → Stb ltv out vs → Q (.ref (s.heap.objs.size + 1)) { s with heap := sortedAll s.heap vs out.toArray }) :
    wpAny (model prog w) A (call (.builtin "sorted") [.ref l]) Q E s := by
  rcases hl with hl | hl
  · exact sorted_ord O hl hz hS h
  · refine Calls.call_function_entry kind_sorted plain_sorted entry_sorted (args_sorted1 _) ?_
    unfold Builtin.«sorted»
    refine wpAny_bind (m := checkCount "sorted" 1 1 _) (wpAny_pure ?_)
    refine wpAny_bind (collectT hl ?_ hz)
    refine wpAny_bind (wpAny_newList ?_ hz)
    have hsz : ((s.heap.push (seqObj "list" #[] 0)).update s.heap.objs.size (Obj.mapSeq (· ++ vs.toArray))).objs.size = s.heap.objs.size + 1 := by rw [Heap.size_update, size_push']
    have at1 : (((s.heap.push (seqObj "list" #[] 0)).update s.heap.objs.size (Obj.mapSeq (· ++ vs.toArray))).push (seqObj "list" vs.toArray 0)).get? (s.heap.objs.size + 1) = some (seqObj "list" vs.toArray 0) := by
      rw [← hsz]; exact Heap.get?_push_size _ rfl
    have kp : ∀ b o, s.heap.get? b = some o → b ≠ s.heap.objs.size + 1 ∧ (((s.heap.push (seqObj "list" #[] 0)).update s.heap.objs.size (Obj.mapSeq (· ++ vs.toArray))).push (seqObj "list" vs.toArray 0)).get? b = some o := fun b o q => by
      have lt1 : b < s.heap.objs.size := Heap.lt_size q
      refine ⟨Nat.ne_of_lt (Nat.lt_succ_of_lt lt1), Heap.get?_push_of_some _ ?_⟩
      rw [Heap.get?_update_ne _ _ _ _ (Nat.ne_of_lt lt1)]
      exact Heap.get?_push_of_some _ q
    show wpAny _ _ _ _ _ { s with heap := ((s.heap.push (seqObj "list" #[] 0)).update s.heap.objs.size (Obj.mapSeq (· ++ vs.toArray))).push (seqObj "list" vs.toArray 0) }
    rw [hsz]
    refine wpAny_bind (wpAny_holding (wpAny_call_entry slot_list_sort ⟨_, at1, rfl⟩ entry_list_sort (list_sort_ord O at1 hz (fun h2 => hS h2 _ _ at1 kp) fun out hs hb => ⟨_, rfl, ?_⟩) (args_list_sort _)))
    exact wpAny_pure ⟨_, rfl, h out hs hb⟩
end

/-! ## a sort of our own: stable -/
section
variable {α β : Type}
def insS (lt : α → α → Bool) (x : α) : List α → List α
  | [] => [x]
  | y :: ys => if lt y x = true then y :: insS lt x ys else x :: y :: ys
def isS (lt : α → α → Bool) : List α → List α
  | [] => []
  | x :: xs => insS lt x (isS lt xs)
variable {lt : α → α → Bool}
theorem insS_perm (x : α) : ∀ ys : List α, (insS lt x ys).Perm (x :: ys)
  | [] => List.Perm.refl _
  | y :: ys => by
    unfold insS
    split
    · exact ((insS_perm x ys).cons y).trans (List.Perm.swap x y ys)
    · exact List.Perm.refl _
theorem isS_perm : ∀ xs : List α, (isS lt xs).Perm xs
  | [] => List.Perm.refl _
  | x :: xs => (insS_perm x _).trans ((isS_perm xs).cons x)
theorem insS_srtd (O : Swo lt) (x : α) : ∀ {ys : List α}, Srtd lt ys → Srtd lt (insS lt x ys)
  | [], _ => List.pairwise_singleton _ _
  | y :: ys, h => by
    have h1 := List.pairwise_cons.mp h
    unfold insS
    split
    · rename_i z
      refine List.pairwise_cons.mpr ⟨fun a ha => ?_, insS_srtd O x h1.2⟩
      rcases List.mem_cons.mp ((insS_perm x ys).mem_iff.mp ha) with rfl | ha
      · exact O.asym _ _ z
      · exact h1.1 a ha
    · rename_i z
      have z' : lt y x = false := by simpa using z
      refine List.pairwise_cons.mpr ⟨fun a ha => ?_, h⟩
      rcases List.mem_cons.mp ha with rfl | ha
      · exact z'
      · exact O.tr x y a z' (h1.1 a ha)
theorem isS_srtd (O : Swo lt) : ∀ xs : List α, Srtd lt (isS lt xs)
  | [] => List.Pairwise.nil
  | x :: xs => insS_srtd O x (isS_srtd O xs)
theorem insS_cls (O : Swo lt) (x z : α) : ∀ ys : List α, (insS lt x ys).filter (eqv lt z) = (x :: ys).filter (eqv lt z)
  | [] => rfl
  | y :: ys => by
    unfold insS
    split
    · rename_i g
      rw [List.filter_cons, insS_cls O x z ys, List.filter_cons, List.filter_cons, List.filter_cons]
      by_cases h1 : eqv lt z y = true
      · by_cases h2 : eqv lt z x = true
        · have a := eqv_iff.mp h1
          have b := eqv_iff.mp h2
          have c := O.tr x z y b.1 a.2
          rw [g] at c; cases c
        · rw [if_pos h1, if_neg h2, if_neg h2, if_pos h1]
      · rw [if_neg h1, if_neg h1]
    · rfl
theorem isS_stb (O : Swo lt) : ∀ xs : List α, Stb lt (isS lt xs) xs := fun xs => ⟨isS_perm xs, fun z => by
  induction xs with
  | nil => rfl
  | cons x xs ih =>
    show (insS lt x (isS lt xs)).filter _ = _
    rw [insS_cls O, List.filter_cons, List.filter_cons, ih]⟩
theorem insS_map {f : α → β} {lb : β → β → Bool} (h : ∀ x y, lb (f x) (f y) = lt x y) (x : α) : ∀ ys : List α, (insS lt x ys).map f = insS lb (f x) (ys.map f)
  | [] => rfl
  | y :: ys => by
    unfold insS
    rw [List.map_cons]
    by_cases z : lt y x = true
    · rw [if_pos z]; simp only [h, z, if_true]; rw [List.map_cons, insS_map h x ys]
    · rw [if_neg z]; simp only [h]; rw [if_neg z, List.map_cons, List.map_cons]
theorem isS_map {f : α → β} {lb : β → β → Bool} (h : ∀ x y, lb (f x) (f y) = lt x y) : ∀ xs : List α, (isS lt xs).map f = isS lb (xs.map f)
  | [] => rfl
  | x :: xs => by
    show (insS lt x (isS lt xs)).map f = insS lb (f x) (isS lb (xs.map f))
    rw [insS_map h, isS_map h xs]
end
end Mi
namespace Mi
open PySem L2
/-! ## sorted: whole numbers, pairs of whole numbers -/
def prD : D → Option (Int × Int)
  | .tup [.int a, .int b] => some (a, b)
  | _ => none
def prK (d : D) : Int × Int := (prD d).getD (0, 0)
def ltPD (x y : D) : Bool := SrtO.lexB (prK x) (prK y)
def ltI (x y : Int) : Bool := decide (x < y)
def fSorted (own : Bool) : List D → Sto → Out D
  | [d], st => match seqv st d with
    | some ys => if (ys.all fun y => (prD y).isSome) = true then mkL own (isS ltPD ys) st else match intsD ys with
      | some ns => mkL own ((isS ltI ns).map .int) st
      | none => .bad
    | none => .bad
  | _, _ => .bad
theorem swo_ltI : SrtO.Swo ltI := ⟨fun x y h => by
  have := of_decide_eq_true (p := x < y) h
  exact decide_eq_false (p := y < x) (by omega), fun x y z h1 h2 => by
  have a := of_decide_eq_false (p := y < x) h1
  have b := of_decide_eq_false (p := z < y) h2
  exact decide_eq_false (p := z < x) (by omega)⟩
theorem swo_ltPD : SrtO.Swo ltPD := by
  refine ⟨fun x y h => ?_, fun x y z h1 h2 => ?_⟩
  · have a := SrtO.lexB_iff.mp h
    exact SrtO.lexB_no.mpr (by omega)
  · have a := SrtO.lexB_no.mp h1
    have b := SrtO.lexB_no.mp h2
    exact SrtO.lexB_no.mpr (by omega)
/-- the pair at an address -/
def kAt (H : Hp) : V → Int × Int
  | .ref t => match H t with
    | some (.tup [.int a, .int b]) => (a, b)
    | _ => (0, 0)
  | _ => (0, 0)
section
variable {X : Cx} {G : Gn} {m p : List Addr} {H : Hp}
theorem prD_rep {d : D} {v : V} (r : Rep G m p H d v) (h : (prD d).isSome = true) : kAt H v = prK d ∧ ∃ t, v = .ref t ∧ H t = some (.tup [.int (prK d).1, .int (prK d).2]) := by
  match d, h with
  | .tup [.int a, .int b], _ =>
    obtain ⟨t, vs, rfl, h1, h2⟩ := rep_tup.mp r
    obtain ⟨v, u, rfl, r1, r2⟩ := reps_2 h2
    have h3 := FzT.at' h1
    rw [rep_int.mp r1, rep_int.mp r2] at h3
    refine ⟨?_, t, rfl, h3⟩
    simp only [kAt, h3]; rfl
theorem reps_zip : ∀ {ds : List D} {vs : List V}, Reps G m p H ds vs → (ds.zip vs).map (·.1) = ds ∧ (ds.zip vs).map (·.2) = vs ∧ ∀ z ∈ ds.zip vs, Rep G m p H z.1 z.2
  | [], vs, r => by rw [reps_nil.mp r]; exact ⟨rfl, rfl, fun z hz => absurd hz (by simp)⟩
  | d :: ds, vs, r => by
    obtain ⟨v, ws, rfl, h1, h2⟩ := reps_cons.mp r
    obtain ⟨a, b, c⟩ := reps_zip h2
    refine ⟨by rw [List.zip_cons_cons, List.map_cons, a], by rw [List.zip_cons_cons, List.map_cons, b], fun z hz => ?_⟩
    rw [List.zip_cons_cons] at hz
    rcases List.mem_cons.mp hz with rfl | hz
    · exact h1
    · exact c z hz
theorem reps_of_zip : ∀ {l : List (D × V)}, (∀ z ∈ l, Rep G m p H z.1 z.2) → Reps G m p H (l.map (·.1)) (l.map (·.2))
  | [], _ => reps_nil.mpr rfl
  | z :: l, h => reps_cons.mpr ⟨z.2, _, rfl, h z List.mem_cons_self, reps_of_zip fun y hy => h y (List.mem_cons_of_mem _ hy)⟩
/-- .. on the same items the same order: the same arrangement -/
theorem isS_congr {α : Type} {l1 l2 : α → α → Bool} {xs : List α} (h : ∀ x ∈ xs, ∀ y ∈ xs, l1 x y = l2 x y) : isS l1 xs = isS l2 xs := by
  have ins : ∀ (x : α) (ys : List α), (∀ y ∈ ys, l1 y x = l2 y x) → insS l1 x ys = insS l2 x ys := by
    intro x ys
    induction ys with
    | nil => intro _; rfl
    | cons y ys ih =>
      intro h
      unfold insS
      rw [h y List.mem_cons_self, ih fun z hz => h z (List.mem_cons_of_mem _ hz)]
  induction xs with
  | nil => rfl
  | cons x xs ih =>
    show insS l1 x (isS l1 xs) = insS l2 x (isS l2 xs)
    rw [ih fun a ha b hb => h a (List.mem_cons_of_mem _ ha) b (List.mem_cons_of_mem _ hb)]
    exact ins x _ fun y hy => h y (List.mem_cons_of_mem _ ((isS_perm xs).mem_iff.mp hy)) x List.mem_cons_self
def rSrtP (K : PySem.W.Frag) : List V → Hp → VK → Prop := fun vs H Q => ∃ (a : Addr) (xs : List V), vs = [V.ref a] ∧ (SqL K H a xs ∨ SqT K H a xs) ∧ (∀ x ∈ xs, ∃ t, x = V.ref t ∧ H t = some (.tup [.int (kAt H x).1, .int (kAt H x).2])) ∧
  ∀ p, H p = none → Q (.ref p) (upd H p (.lst (isS (ltP (kAt H)) xs)))
theorem cr_srtP : CallR X (.builtin "sorted") (rSrtP X.K) := by
  intro pins s σ H vs us Q I r h
  obtain ⟨a, xs, rfl, hs, hx, q⟩ := h
  obtain ⟨its, rv, hl, hz⟩ : ∃ its : List Value, Vals xs its ∧ (s.heap.IsList a its.toArray ∨ PyProof.Rows.IsTup s.heap a its.toArray) ∧ xs.length ≤ sizeLine := by
    rcases hs with hs | hs
    · obtain ⟨its, rv, hl, hz⟩ := I.list hs; exact ⟨its, rv, .inl hl.isList, hz⟩
    · obtain ⟨its, rv, hl, hz⟩ := I.tuple hs; exact ⟨its, rv, .inr hl, hz⟩
  obtain ⟨u, rfl, ru⟩ := vals1 r
  obtain rfl : u = Value.ref a := ru
  obtain ⟨e1, e2⟩ := refs_back rv fun x m => by
    obtain ⟨t, e, _⟩ := hx x m
    exact ⟨t, e⟩
  have hp : ∀ v ∈ its, Srt.IsPair s.heap v (kAt H (backV v)).1 (kAt H (backV v)).2 := fun v hv => by
    obtain ⟨t, rfl⟩ := e2 v hv
    have hm : V.ref t ∈ xs := by rw [e1]; exact List.mem_map.mpr ⟨_, hv, rfl⟩
    obtain ⟨t', e, ht⟩ := hx _ hm
    cases e
    obtain ⟨_, its2, r2, o, ho, hc, n, hd⟩ := I.hok _ _ ht
    obtain ⟨u1, u2, rfl, ri, rj⟩ := vals2 r2
    obtain ⟨t1, rfl⟩ := ri
    obtain ⟨t2, rfl⟩ := rj
    exact ⟨t, o, t1, t2, n, rfl, ho, hc, hd⟩
  refine sortedLT (SrtO.swo_lex fun u => kAt H (backV u)) hl (by rw [← rv.length]; exact hz) (fun h2 h₁ b hb kk => ?_) fun out h1 h2 => ?_
  · refine SrtO.pairs_sortableO (s := { s with heap := h₁ }) (by omega) (fun v hm => (hp v hm).keeps fun b o e _ => (kk b o e).2) fun o e => ?_
    have e' := Option.some.inj (e.symm.trans hb)
    subst e'
    intro c
    exact absurd (Value.type.inj c) (by decide)
  · have h3 : ∀ u ∈ out, ∃ a, u = Value.ref a := fun u hu => e2 u (h2.perm.mem_iff.mp hu)
    have h4 : SrtO.Stb (ltP (kAt H)) (out.map backV) xs := by
      rw [e1]
      exact SrtO.Stb.map (ltP_swo _) backV h2
    have h5 : out.map backV = isS (ltP (kAt H)) xs := SrtO.stb_uniq (ltP_swo _) (SrtO.srtd_map h1) (isS_srtd (ltP_swo _) xs) (h4.trans ⟨(isS_perm xs).symm, fun z => ((isS_stb (ltP_swo _) xs).cls z).symm⟩)
    have hd : s.heap.objs.size ≤ s.heap.objs.size + 1 := Nat.le_succ _
    obtain ⟨n, hn⟩ := PyProof.Rows.sortedAll_at s.heap its out.toArray
    refine ⟨.ref (s.heap.objs.size + 1), upd H (s.heap.objs.size + 1) (.lst (out.map backV)), I.laid (t' := s.toks) (fun b o e => PyProof.Rows.sortedAll_old e) hd ⟨by rw [h4.len]; exact hz, out, n, vals_back h3, hn⟩, rfl, ?_⟩
    rw [h5]
    exact q _ (I.hok.fresh hd)
def rSrtI (K : PySem.W.Frag) : List V → Hp → VK → Prop := fun vs H Q => ∃ (a : Addr) (ns : List Int), vs = [V.ref a] ∧ (SqL K H a (ns.map V.int) ∨ SqT K H a (ns.map V.int)) ∧ ∀ p, H p = none → Q (.ref p) (upd H p (.lst ((isS ltI ns).map V.int)))
theorem cr_srtI : CallR X (.builtin "sorted") (rSrtI X.K) := by
  intro pins s σ H vs us Q I r h
  obtain ⟨a, ns, rfl, hs, q⟩ := h
  obtain ⟨its, rv, hl, hz⟩ : ∃ its : List Value, Vals (ns.map V.int) its ∧ (s.heap.IsList a its.toArray ∨ PyProof.Rows.IsTup s.heap a its.toArray) ∧ (ns.map V.int).length ≤ sizeLine := by
    rcases hs with hs | hs
    · obtain ⟨its, rv, hl, hz⟩ := I.list hs; exact ⟨its, rv, .inl hl.isList, hz⟩
    · obtain ⟨its, rv, hl, hz⟩ := I.tuple hs; exact ⟨its, rv, .inr hl, hz⟩
  rw [Vals.ref1 r]
  have hi := rv.ints
  refine sortedLT SrtO.swo_int hl (by rw [← rv.length]; exact hz) (fun h2 h₁ a' _ _ => SrtO.ints_sortable hi h2) fun out h1 h2 => ?_
  obtain ⟨k1, k2, k3⟩ := SrtO.ints_out hi h1 h2
  have h5 : out.map SrtO.iv = isS ltI ns := by
    refine SrtO.stb_uniq swo_ltI ?_ (isS_srtd swo_ltI ns) ?_
    · exact k3.imp fun {x y} h => decide_eq_false (p := y < x) (by omega)
    · have hb : SrtO.Stb ltI (out.map SrtO.iv) (its.map SrtO.iv) := SrtO.Stb.map swo_ltI SrtO.iv h2
      rw [SrtO.iv_ints hi] at hb
      exact hb.trans ⟨(isS_perm ns).symm, fun z => ((isS_stb swo_ltI ns).cls z).symm⟩
  have hd : s.heap.objs.size ≤ s.heap.objs.size + 1 := Nat.le_succ _
  obtain ⟨n, hn⟩ := PyProof.Rows.sortedAll_at s.heap its out.toArray
  have hlen : ((out.map SrtO.iv).map V.int).length ≤ sizeLine := by
    rw [List.length_map, k2.length_eq]
    rw [List.length_map] at hz
    exact hz
  refine ⟨.ref (s.heap.objs.size + 1), upd H (s.heap.objs.size + 1) (.lst ((out.map SrtO.iv).map V.int)), I.laid (t' := s.toks) (fun b o e => PyProof.Rows.sortedAll_old e) hd ⟨hlen, out, n, vals_of_ints k1, hn⟩, rfl, ?_⟩
  rw [h5]
  exact q _ (I.hok.fresh hd)
theorem bl_sorted (own : Bool) : BlOk X (.builtin "sorted") (fSorted own) := by
  refine ⟨_, CallR.or cr_srtP cr_srtI, ?_⟩
  intro W σ m p H st ds vs Q S r h
  match ds, h with
  | [d], h =>
    obtain ⟨v, rfl, rv⟩ := reps_1 r
    cases q : seqv st d with
    | none => simp only [fSorted, q] at h; exact h.elim
    | some ys =>
      simp only [fSorted, q] at h
      obtain ⟨a, ws, rfl, h1, h2⟩ := seqv_rep S rv q
      by_cases z : (ys.all fun y => (prD y).isSome) = true
      · rw [if_pos z] at h
        obtain ⟨z1, z2, z3⟩ := reps_zip h2
        have hk : ∀ zz ∈ ys.zip ws, kAt H zz.2 = prK zz.1 ∧ ∃ t, zz.2 = .ref t ∧ H t = some (.tup [.int (prK zz.1).1, .int (prK zz.1).2]) := fun zz hz =>
          prD_rep (z3 zz hz) (List.all_eq_true.mp z zz.1 (by rw [← z1]; exact List.mem_map.mpr ⟨zz, hz, rfl⟩))
        refine .inl ⟨a, ws, rfl, h1, fun x hx => ?_, ?_⟩
        · rw [← z2] at hx
          obtain ⟨zz, hz, rfl⟩ := List.mem_map.mp hx
          obtain ⟨k1, t, k2, k3⟩ := hk zz hz
          exact ⟨t, k2, by rw [k1]; exact k3⟩
        · have e1 : isS (ltP (kAt H)) ws = (isS (fun x y : D × V => ltPD x.1 y.1) (ys.zip ws)).map (·.2) := by
            rw [isS_congr (l2 := fun x y : D × V => ltP (kAt H) x.2 y.2) (fun x hx y hy => by
              show SrtO.lexB _ _ = SrtO.lexB _ _
              rw [(hk x hx).1, (hk y hy).1])]
            rw [isS_map (f := fun z : D × V => z.2) (lb := ltP (kAt H)) (fun _ _ => rfl), z2]
          have e2 : isS ltPD ys = (isS (fun x y : D × V => ltPD x.1 y.1) (ys.zip ws)).map (·.1) := by
            rw [isS_map (f := fun z : D × V => z.1) (lb := ltPD) (fun _ _ => rfl), z1]
          rw [e1]
          rw [e2] at h
          exact newL h S (reps_of_zip fun zz hz => z3 zz ((isS_perm _).mem_iff.mp hz))
      · rw [if_neg z] at h
        cases q2 : intsD ys with
        | none => simp only [q2] at h; exact h.elim
        | some ns =>
          simp only [q2] at h
          have e := intsD_rep h2 q2
          subst e
          exact .inr ⟨a, ns, rfl, h1, newL h S (reps_ints _)⟩
end
end Mi

namespace Mi
open PySem PySem.Spec PyProof.Rows L2

/-! ## the law's end -/
/-- every def of the law over one written part, called with a script -/
theorem end_call {P : Program} {w : World} {K : PySem.W.Frag} {mg mb : Str → Option Value} {k : Nat} {fa a : Addr} {fd : FuncData} {x : Str} {Fn : List D → Sto → Out D} {s1 : Shared} {us : List Value} {ns : List Int}
    (KX : K.In s1.heap) (hG : s1.heap.Ns mainGlobals mg) (hB : s1.heap.Ns builtinsNs mb) (hBB : ∀ x : Str, x ≠ "__name__" → mb x = bootBuiltins x) (hL : s1.heap.NoLimit) (hg : s1.gens = #[])
    (ha : s1.heap.get? a = some { cls := .type "list", data := .seq us.toArray }) (hi : IntsAre us ns) (hl : ns.length ≤ sizeLine) (hr : Room k callerA)
    (F : ∀ base : Heap, K.In base → base.Ns mainGlobals mg → FnG P w K mg base k fa fd [x] Fn) (hb : ∀ (s : Shared) (u : Value), BindsTo s fd ⟨[u], []⟩ [(x, u)])
    (hF : ∃ st', Fn [.rl (ns.map .int)] [] = .ok (.bl true) st') :
    codeAny (model P w) callerA (.call (.ref fa) ⟨[.ref a], []⟩) (fun r s' => r = .ok (.ret (.bool true)) ∧ OldK s1.heap s'.heap ∧ s'.os = s1.os ∧ AllBare s'.gens) s1 := by
  have rv := vals_ints hi
  have lv := hi.length
  -- one abstract heap at a time: in it stands nothing, or the script alone
  have one : ∀ H : Hp, (∀ b, H b ≠ none → b = a ∧ K.lookup a = none ∧ ∃ o xs, H b = some (.frz o (.lst xs))) → SqL K H a (ns.map V.int) → HOk P w H s1.heap →
      codeAny (model P w) callerA (.call (.ref fa) ⟨[.ref a], []⟩) (fun r s' => r = .ok (.ret (.bool true)) ∧ OldK s1.heap s'.heap ∧ s'.os = s1.os ∧ AllBare s'.gens) s1 := by
    intro H hA hS hok
    have noD : ∀ {b : Addr} {o : Obj} {es : Array DictEntry} {ep : Nat}, s1.heap.get? b = some o → o.data = .dict es ep → H b = none := fun {b o es ep} e d => by
      cases q : H b with
      | none => rfl
      | some u =>
        obtain ⟨e1, _⟩ := hA b (by rw [q]; simp)
        subst e1
        rw [ha] at e; cases e
        exact absurd (show Data.seq us.toArray _ = Data.dict es ep from d) (by intro z; cases z)
    have kNs : ∀ {b : Addr} {m : Str → Option Value}, s1.heap.Ns b m → (hidT s1.heap H).Ns b m := fun {b m} ⟨o, es, ep, e, d, r⟩ => ⟨o, es, ep, hidT_get e (noD e d), d, r⟩
    have kIn : K.In (hidT s1.heap H) := fun b o e => hidT_get (KX b o e) (by
      cases q : H b with
      | none => rfl
      | some u =>
        obtain ⟨e1, e2, _⟩ := hA b (by rw [q]; simp)
        subst e1
        rw [e2] at e; cases e)
    have md : Mod K mg (hidT s1.heap H) := ⟨kIn, kNs hG, ⟨mb, kNs hB, hBB⟩, let ⟨mc, z1, z2⟩ := hL; ⟨mc, kNs z1, z2⟩⟩
    have en : Env0 P w K mg (hidT s1.heap H) callerA [] s1 H := ⟨rfl, md, fun b o e => of_hidT e, Nat.le_of_eq (hidT_size _ _), trivial, fun b hb => absurd hb (List.not_mem_nil), hok, .of_eq hg⟩
    obtain ⟨st', hst⟩ := hF
    have sp : spM ⟨K, mg⟩ 1 Fn [.ref a] H (fun v _ => v = .bl true) (fun _ _ _ => False) := by
      refine ⟨[], [], [.rl (ns.map .int)], [], .one (rep_rl.mpr ⟨a, ns.map V.int, rfl, ?_, reps_ints ns⟩), ⟨List.nodup_nil, rfl, fun n a o z => by simp at z, fun b hb => absurd hb (List.not_mem_nil)⟩, rfl, ?_⟩
      · rcases hS with z | z
        · exact .inl ⟨z, List.not_mem_nil, List.not_mem_nil⟩
        · exact .inr z
      · rw [hst]
        exact fun v m' H' _ _ r => rep_bl.mp r
    refine codeAny_mono ((F _ kIn (kNs hG)).run callerA [] s1 H ⟨[.ref a], []⟩ [.ref a] [.ref a] _ _ hr rfl en (hb s1 (.ref a)) (.cons rfl .nil) sp) fun r s' z => ?_
    cases r with
    | error e =>
      obtain ⟨_, _, _, _, _, _, _, _, _, _, _, _, z⟩ := (show CX P w [] H s1 (fun _ _ _ => False) e s' from z)
      exact z.elim
    | ok fl =>
      cases fl with
      | next => exact False.elim z
      | brk => exact False.elim z
      | cont => exact False.elim z
      | ret u =>
        obtain ⟨v, H', os, bare, un, hok', r', q⟩ := z
        obtain rfl : v = .bl true := q
        obtain rfl : u = Value.bool true := r'
        refine ⟨rfl, OldK.of_keep fun b o e => ?_, os, bare⟩
        cases q : H b with
        | none => exact un.keep b o e q List.not_mem_nil List.not_mem_nil
        | some u =>
          obtain ⟨_, _, ob, xs, z⟩ := hA b (by rw [q]; simp)
          obtain ⟨e1, _⟩ := hok b _ z
          obtain ⟨e2, _⟩ := hok' b _ (un.frzs b ob _ z)
          rw [e] at e1; cases e1
          exact e2
  cases hk : K.lookup a with
  | some o =>
    have e := KX a o hk
    rw [ha] at e
    cases e
    exact one (fun _ => none) (fun b z => absurd rfl z) (.inr ⟨_, us.toArray, _, hk, rfl, rfl, rfl, by rw [List.size_toArray, lv]; exact hl, by simpa using rv⟩) (fun b u z => nomatch (show (none : Option HO) = some u from z))
  | none =>
    refine one (fun b => if b = a then some (.frz { cls := .type "list", data := .seq us.toArray } (.lst (ns.map V.int))) else none) (fun b z => ?_) (.inl (.inr ⟨{ cls := .type "list", data := .seq us.toArray }, if_pos rfl⟩)) (fun b u z => ?_)
    · by_cases hb : b = a
      · exact ⟨hb, hk, _, _, if_pos hb⟩
      · exact absurd (if_neg hb) z
    · by_cases hb : b = a
      · have z' := (if_pos hb).symm.trans z
        cases z'
        subst hb
        exact ⟨ha, by rw [List.length_map]; exact hl, us, _, rv, ha⟩
      · have z' := (if_neg hb).symm.trans z
        cases z'
/-- what k_head leaves, out of the law's term -/
theorem walk_end {l : PySem.W.OpenLaw} {n k : Nat} {q : Program} {loose : List Str} {XP : (Str → Option Value) → Heap → Prop} {YP : World → Heap → Prop} {d : DefRec} {K : Params → PySem.W.Frag} {x : Str} {Fn : List D → Sto → Out D}
    (hn : l.most = some n) (hn2 : n ≤ sizeLine) (hdf : d.params.defaults = []) (hr : Room k callerA) (hY : ∀ (w : World) (h : Heap), YP w h → (K w.params).In h)
    (hF : ∀ ns : List Int, ns.length ≤ n → ∃ st', Fn [.rl (ns.map .int)] [] = .ok (.bl true) st')
    (F : ∀ (w : World) (mg : Str → Option Value) (fa : Addr) (h : Heap), (K w.params).In h → h.Ns mainGlobals mg → mg d.name = some (.ref fa) →
      ∃ fd : FuncData, (∀ (s : Shared) (u : Value), BindsTo s fd ⟨[u], []⟩ [(x, u)]) ∧ ∀ base : Heap, (K w.params).In base → base.Ns mainGlobals mg → FnG l.prog w (K w.params) mg base k fa fd [x] Fn) :
    PySem.W.WalkO q loose XP YP l.row.toRowW d [] (fun f vs => PySem.call f vs) := by
  refine Att.attach_call hn hdf fun w s0 s1 mg mb fa o pm cd doc a vs ns G Y ho hd hcd hmg hobj hints hlen hg => ?_
  have KX := hY w _ Y
  obtain ⟨fd, hb, hF2⟩ := F w mg fa _ KX G.T.g hmg
  exact end_call KX G.T.g G.T.b G.T.builtins G.T.nolimit hg hobj hints (Nat.le_trans hlen hn2) hr hF2 hb (hF ns hlen)
end Mi

namespace Mi
open PySem L2

/-! ## xs[::-1] of a list -/
def fRev (own : Bool) : D → Sto → Out D := fun d st => match lstv st d with
  | some ys => mkL own ys.reverse st
  | none => .bad
section
variable {X : Cx} {W : WX} {xs : XSlot} {a i e : Expr} {ca ci c : EM} {k : Nat} {p1 p2 p3 pos tpos : Pos} {op : Operator} {f : D → D → Sto → Out D}
theorem me_rev (own : Bool) (ha : ME X W xs a ca) : ME X W xs (.Subscript a (.Slice none none (some (.UnaryOp .USub (.Constant (.int 1) k p1) p2)) p3) pos) (mUn (fRev own) ca) :=
  PEi (pe_revL ha) fun σ H Q ⟨m, p, env, st, E, S, h⟩ => ⟨m, p, env, st, E, S, h.andD fun d st1 v m1 H1 e1 s1 r1 h1 => by
    cases q : lstv st1 d with
    | none => simp only [fRev, q] at h1; exact h1.elim
    | some ys =>
      simp only [fRev, q] at h1
      obtain ⟨l, vs, rfl, g1, g2⟩ := lstv_rep s1 r1 q
      exact ⟨l, vs, rfl, g1, newL h1 s1 g2.rev⟩⟩

/-! ## o[i] op= e -/
def sAugA (ca ci c : EM) (f : D → D → Sto → Out D) : SM := fun e st => (ca e st).toS e fun x st1 => (ci e st1).toS e fun i st2 => match getA x i st2 with
  | some old => (c e st2).toS e fun y st3 => (f old y st3).toS e fun z st4 => match setA x i z st4 with
    | some st5 => .nx e st5
    | none => .bad
  | none => .bad
where getA (x i : D) (st : Sto) : Option D := match dGet st x i with
  | some o => o
  | none => match x, i with
    | .ref n, .int k => match st[n]? with
      | some (.lst ys) => atI ys k
      | _ => none
    | _, _ => none
theorem pget_list : PGet X (fun o i H Q => ∃ p ys k v, o = .ref p ∧ i = .int k ∧ H p = some (.lst ys) ∧ atI ys k = some v ∧ Q v H) := by
  intro pins s σ H o i ov iv Q I ro ri h
  obtain ⟨p, ys, k, z, rfl, rfl, hq, he, q⟩ := h
  obtain rfl : ov = Value.ref p := ro
  obtain ⟨t, rfl⟩ := ri
  obtain ⟨its, r, pl, hz⟩ := I.list (SqL.of hq)
  obtain ⟨j, h1, h2, h3, h4, h5⟩ := atI_get he
  obtain ⟨w, ew, rw'⟩ := r.get h2
  have hl := r.length
  have hn := line63
  have fin : EP X pins σ Q w s := ⟨z, H, I, rw', q⟩
  by_cases h0 : 0 ≤ k
  · have hj : k.toNat = j := by
      rw [seqIndex_of h0 h5] at h1
      exact Option.some.inj h1
    exact wpAny_getItem_list pl.isList h0 (by omega) (by rw [hj]; simpa using ew) fin
  · have hj : (k + (its.toArray.size : Int)).toNat = j := by
      rw [seqIndex_neg (by omega) h4] at h1
      rw [List.size_toArray, ← hl]
      exact Option.some.inj h1
    exact wpAny_getItem_list_neg pl.isList (by omega) (by rw [List.size_toArray] <;> omega) (by omega) (by rw [hj]; simpa using ew) fin
end
end Mi

namespace Mi
open PySem L2

/-! ## short words for printed texts -/
abbrev fPlus : D → D → Sto → Out D := fInt fun i j => .int (i + j)
abbrev fSub : D → D → Sto → Out D := fInt fun i j => .int (i - j)
abbrev fDiv : D → D → Sto → Out D := fIntC CDivW fun i j => .int (i / j)
abbrev fMod : D → D → Sto → Out D := fIntC (fun _ j => 0 < j) fun i j => .int (i % j)
abbrev fPow : D → D → Sto → Out D := fIntC CPow fun i j => .int (i ^ j.toNat)
abbrev fLt : D → D → Sto → Out D := fInt fun i j => .bl (decide (i < j))
abbrev fLe : D → D → Sto → Out D := fInt fun i j => .bl (decide (i ≤ j))
abbrev fGt : D → D → Sto → Out D := fInt fun i j => .bl (decide (j < i))
abbrev fGe : D → D → Sto → Out D := fInt fun i j => .bl (decide (j ≤ i))
theorem bt_len : bootBuiltins "len" = some (.builtin "len") := by decide +kernel
theorem bt_abs : bootBuiltins "abs" = some (.builtin "abs") := by decide +kernel
theorem bt_max : bootBuiltins "max" = some (.builtin "max") := by decide +kernel
theorem bt_min : bootBuiltins "min" = some (.builtin "min") := by decide +kernel
theorem bt_sum : bootBuiltins "sum" = some (.builtin "sum") := by decide +kernel
theorem bt_all : bootBuiltins "all" = some (.builtin "all") := by decide +kernel
theorem bt_any : bootBuiltins "any" = some (.builtin "any") := by decide +kernel
theorem bt_repr : bootBuiltins "repr" = some (.builtin "repr") := by decide +kernel
theorem bt_sorted : bootBuiltins "sorted" = some (.builtin "sorted") := by decide +kernel
theorem bt_int : bootBuiltins "int" = some (.type "int") := by decide +kernel
theorem bt_str : bootBuiltins "str" = some (.type "str") := by decide +kernel
theorem bt_bool : bootBuiltins "bool" = some (.type "bool") := by decide +kernel
theorem bt_list : bootBuiltins "list" = some (.type "list") := by decide +kernel
theorem bt_tuple : bootBuiltins "tuple" = some (.type "tuple") := by decide +kernel
theorem bt_dict : bootBuiltins "dict" = some (.type "dict") := by decide +kernel

/-! ## tables out of facts -/
section
variable {K : PySem.W.Frag} {mg : Str → Option Value}
theorem exm_of {C c : Addr} {cd : ClassData} {b : Bool} (h1 : PySem.W.subIn K (.ref c) (.type "BaseException") = some true) (h2 : PySem.W.clsIn K c = some cd) (h3 : PySem.W.typeIn K (.ref c) = some (.type "type")) (h4 : PySem.W.subIn K (.ref C) (.ref c) = some b) :
    PySem.W.exmOne K (.ref C) (.ref c) = some b := by
  unfold PySem.W.exmOne
  rw [h1]
  have e1 : ((some true : Option Bool) == some true) = true := by decide
  rw [if_pos e1]
  show (if ((PySem.W.clsIn K c).isSome && PySem.W.typeIn K (.ref c) == some (.type "type")) = true then PySem.W.subIn K (.ref C) (.ref c) else none) = some b
  rw [h2, h3, h4]
  have e2 : ((some cd : Option ClassData).isSome && (some (Value.type "type") : Option Value) == some (.type "type")) = true := by
    show (true && _) = true
    rw [Bool.true_and]
    exact beq_self_eq_true _
  rw [if_pos e2]
theorem exTab_nil : exTab K mg [] = true := rfl
theorem exTab_cons {x c : Str} {C cc : Addr} {b : Bool} {t : List (Str × Str × Bool)} (m1 : mg x = some (.ref C)) (m2 : mg c = some (.ref cc)) (e : PySem.W.exmOne K (.ref C) (.ref cc) = some b)
    (ga : PySem.W.findIn K (.ref C) "__getattribute__" = some (some (.builtin "BaseException.__getattribute__"))) (gg : PySem.W.findIn K (.ref C) "__getattr__" = some none) (ex : PySem.W.subIn K (.ref C) (.type "BaseException") = some true) (hd : PySem.W.hasDictIn K C = true)
    (na : PySem.W.findIn K (.ref C) "at" = some none) (r : exTab K mg t = true) : exTab K mg ((x, c, b) :: t) = true := by
  unfold exTab at r ⊢
  rw [List.all_cons, r, Bool.and_true]
  simp only [m1, m2, Bool.and_eq_true, decide_eq_true_eq, xfB]
  exact ⟨e, ⟨ga, gg, ex, hd⟩, na⟩
theorem fldB_nil : fldB K mg [] = true := rfl
theorem fldB_cons {c f : Str} {C : Addr} {t : List (Str × Str)} (m : mg c = some (.ref C)) (pg : PySem.W.plainGet K C Str.empty = true) (hd : PySem.W.hasDictIn K C = true) (po : PySem.W.plainOver K C = true)
    (sa : PySem.W.findIn K (.ref C) "__setattr__" = some (some (.builtin "object.__setattr__"))) (n : PySem.W.findIn K (.ref C) f = some none) (r : fldB K mg t = true) : fldB K mg ((c, f) :: t) = true := by
  unfold fldB at r ⊢
  rw [List.all_cons, r, Bool.and_true]
  simp only [m, Bool.and_eq_true, decide_eq_true_eq, clsB]
  exact ⟨⟨pg, hd, po, sa⟩, n⟩
end
/-- a call's way of binding, by its parameters' number -/
theorem cal_of {P : Program} {w : World} {K : PySem.W.Frag} {mg : Str → Option Value} {base : Heap} {k n : Nat} {x : Str} {ks : List Str} {π : List Nat} {F : List D → Sto → Out D} {f : Addr} {fd : FuncData} {ps : List Str} (m : mg x = some (.ref f)) (kp : PySem.W.keepIn K (.ref f) = true)
    (B : BindK fd ps n ks π) (G : FnG P w K mg base k f fd ps F) (h1 : π.length = ps.length := by decide) (h2 : ∀ i ∈ π, i < n + ks.length := by decide) : Cal P w K mg base k x n ks π F := ⟨f, fd, ps, m, kp, B, G, h1, h2⟩
theorem calC_of {P : Program} {w : World} {K : PySem.W.Frag} {mg : Str → Option Value} {base : Heap} {k n : Nat} {x : Str} {ks : List Str} {π : List Nat} {F : List D → Sto → Out D} {C f : Addr} {fd : FuncData} {ps : List Str} (m : mg x = some (.ref C)) (M : Mk K C f)
    (B : BindK fd ps (n + 1) ks π) (G : FnG P w K mg base k f fd ps F) (h1 : π.length = ps.length := by decide) (h2 : ∀ i ∈ π, i < n + 1 + ks.length := by decide) : CalC P w K mg base k x n ks π F := ⟨C, f, fd, ps, m, M, B, G, h1, h2⟩
end Mi
namespace Mi
open PySem L2
/-- an error class of the text, ready to be raised and caught -/
structure ExcOk (P : Program) (K : PySem.W.Frag) (mg : Str → Option Value) (x : Str) : Prop where
  ex : ∃ C f cc cda name qual params body scope dV kV doc pm ct an, mg x = some (.ref C) ∧ SupC P K C f name qual params body scope cc cda dV kV doc pm ct an ∧ PySem.W.findIn K (.ref C) "__init__" = some (some (.ref f)) ∧ PySem.W.typeIn K (.ref f) = some (.type "function")
section
variable {X : Cx} {W : WX} {xs : XSlot} {sub : Str → Str → Option Bool} {hs : List ExceptHandler} {l : List (Str × Option Nat × SM)} {x n : Str} {b0 : Stmt} {bs : List Stmt} {q1 q2 p pos rpos : Pos} {c : SM} {e : Expr} {ca : EM}
theorem ms_raiseO (hc : X.calm = true) (tk : Takes X W) (T : ExcOk X.prog X.K X.mg x) (hr : Room 1 X.A) (hms : X.mg "super" = none) (ha : ME X W xs e ca) (hg : Gl X x := by rfl)
    (hdb : (x == ("__debug__" : Str)) = false := by decide) (he : starEach [e] X.env = (false, eval e X.env) :: starEach [] X.env := by rfl) :
    MS X W xs (.Raise (some (.Call (.Name x p) [e] [] pos)) none rpos) (sRaise x ca) := by
  obtain ⟨C, f, cc, cda, name, qual, params, body, scope, dV, kV, doc, pm, ct, an, h1, h2, h3, h4⟩ := T.ex
  exact ms_raise hc tk h2 h3 h4 hr hms h1 ha hg hdb he
theorem mcl_namedO (T : ExT X sub) (i : Nat) (hN : X.N.Nodup) (E : ExcOk X.prog X.K X.mg x)
    (hb : ∀ (a : Addr) (oe : Obj) (cls : Value) (q : Addr) (pn : List (Addr × Obj)), Zc cls (some q) oe → (∃ vs, oe.data = .fields vs) → XfH X.K cls → MSs (X.suite a ((a, oe) :: pn)) wN (some (i, a, q)) (b0 :: bs) c) (hr : MCl X sub hs l)
    (hi : X.N[i]? = some n := by rfl) (hl : X.env.kindOf n = some .local := by rfl) (hg : Gl X x := by rfl) (hd : (x == ("__debug__" : Str)) = false := by decide) :
    MCl X sub (.ExceptHandler (some (.Name x q1)) (some n) (b0 :: bs) q2 :: hs) ((x, some i, c) :: l) := by
  obtain ⟨C, _, _, _, _, _, _, _, _, _, _, _, _, _, _, h1, _⟩ := E.ex
  exact mcl_named T i hN h1 hb hr hi hl hg hd
theorem mcl_plainO (T : ExT X sub) (E : ExcOk X.prog X.K X.mg x)
    (hb : ∀ (a : Addr) (oe : Obj) (cls : Value) (dx : Option Addr) (pn : List (Addr × Obj)), Zc cls dx oe → (∃ vs, oe.data = .fields vs) → MSs (X.suite a ((a, oe) :: pn)) wN none (b0 :: bs) c) (hr : MCl X sub hs l)
    (hg : Gl X x := by rfl) (hd : (x == ("__debug__" : Str)) = false := by decide) :
    MCl X sub (.ExceptHandler (some (.Name x q1)) none (b0 :: bs) q2 :: hs) ((x, none, c) :: l) := by
  obtain ⟨C, _, _, _, _, _, _, _, _, _, _, _, _, _, _, h1, _⟩ := E.ex
  exact mcl_plain T h1 hb hr hg hd
end
end Mi
namespace Mi
open PySem L2
theorem hu65 {k : Nat} {A : Around} (r : Room k A) : A.units + 65 < cLine := by have := r.un; omega
end Mi

namespace Mi
open PySem L2

/-! ## reckoning with terms -/
theorem mkL_f {xs : List D} {st : Sto} : mkL false xs st = .ok (.fl xs) st := rfl
theorem mkL_t {xs : List D} {st : Sto} : mkL true xs st = .ok (.ref st.length) (st ++ [.lst xs]) := rfl
theorem bind_ok {α β : Type} {a : α} {st : Sto} {k : α → Sto → Out β} : (Out.ok a st).bind k = k a st := of_eq_true (eq_self _)
theorem bind_exc {α β : Type} {x : Str} {v : Option D} {st : Sto} {k : α → Sto → Out β} : (Out.exc x v st).bind k = .exc x v st := of_eq_true (eq_self _)
theorem toS_ok {α : Type} {a : α} {st : Sto} {e : En} {k : α → Sto → SO} : (Out.ok a st).toS e k = k a st := of_eq_true (eq_self _)
theorem toS_exc {α : Type} {x : Str} {v : Option D} {st : Sto} {e : En} {k : α → Sto → SO} : (Out.exc x v st).toS e k = .exc x v e st := of_eq_true (eq_self _)
theorem seq_nx {e : En} {st : Sto} {b : SM} : (SO.nx e st).seq b = b e st := of_eq_true (eq_self _)
theorem seq_rt {d : D} {st : Sto} {b : SM} : (SO.rt d st).seq b = .rt d st := of_eq_true (eq_self _)
theorem seq_exc {x : Str} {v : Option D} {e : En} {st : Sto} {b : SM} : (SO.exc x v e st).seq b = .exc x v e st := of_eq_true (eq_self _)
theorem sel_nil {α : Type} {l : List α} : sel [] l = [] := rfl
theorem sel_0 {α : Type} {a : α} {l : List α} {π : List Nat} : sel (0 :: π) (a :: l) = a :: sel π (a :: l) := by simp [sel]
theorem sel_1 {α : Type} {a b : α} {l : List α} {π : List Nat} : sel (1 :: π) (a :: b :: l) = b :: sel π (a :: b :: l) := by simp [sel]
theorem sel_2 {α : Type} {a b c : α} {l : List α} {π : List Nat} : sel (2 :: π) (a :: b :: c :: l) = c :: sel π (a :: b :: c :: l) := by simp [sel]
theorem sel_3 {α : Type} {a b c d : α} {l : List α} {π : List Nat} : sel (3 :: π) (a :: b :: c :: d :: l) = d :: sel π (a :: b :: c :: d :: l) := by simp [sel]
/-- what goes out: nothing new is named -/
theorem gcD_cut {k : Nat} {d : D} {st new : Sto} (hk : st.length = k) (h1 : noRef k d = true) (h2 : (st.all (noRefO k)) = true) : gcD k d (st ++ new) = .ok d st := by
  subst hk
  unfold gcD shut
  rw [List.take_left, h1, h2]; rfl
theorem gcD_same {k : Nat} {d : D} {st : Sto} (hk : st.length = k) : gcD k d st = .ok d st := by
  subst hk
  unfold gcD
  rw [List.take_length]
  split <;> rfl
theorem gcX_same {k : Nat} {x : Str} {v : Option D} {st : Sto} (hk : st.length = k) : gcX k x v st = .exc x v st := by
  subst hk
  unfold gcX
  rw [List.take_length]
  split <;> rfl
theorem gcX_cut {k : Nat} {x : Str} {v : Option D} {st new : Sto} (hk : st.length = k) (h1 : noRefA k v = true) (h2 : (st.all (noRefO k)) = true) : gcX k x v (st ++ new) = .exc x v st := by
  subst hk
  unfold gcX shut
  rw [List.take_left, h1, h2]; rfl
/-- something new is named: all stays -/
theorem gcD_keep {k : Nat} {d : D} {st : Sto} (h1 : noRef k d = false) : gcD k d st = .ok d st := by
  unfold gcD
  rw [h1, Bool.false_and]
  rfl
/-- a store in which every place names places of it alone -/
def wf (k : Nat) (st : Sto) : Prop := (st.all (noRefO k)) = true
mutual
theorem noRef_le {j k : Nat} (h : j ≤ k) : ∀ d : D, noRef j d = true → noRef k d = true
  | .ref n, z => by simp only [noRef, decide_eq_true_eq] at z ⊢; omega
  | .tup ds, z => by simp only [noRef] at z ⊢; exact noRefs_le h ds z
  | .fl ds, z => by simp only [noRef] at z ⊢; exact noRefs_le h ds z
  | .rl ds, z => by simp only [noRef] at z ⊢; exact noRefs_le h ds z
  | .non, _ => by simp only [noRef]
  | .bl _, _ => by simp only [noRef]
  | .int _, _ => by simp only [noRef]
  | .str _, _ => by simp only [noRef]
  | .glob _, _ => by simp only [noRef]
theorem noRefs_le {j k : Nat} (h : j ≤ k) : ∀ ds : List D, noRefs j ds = true → noRefs k ds = true
  | [], _ => by simp only [noRefs]
  | d :: ds, z => by
    simp only [noRefs, Bool.and_eq_true] at z ⊢
    exact ⟨noRef_le h d z.1, noRefs_le h ds z.2⟩
end
theorem noRefK_le {κ : Type} {j k : Nat} (h : j ≤ k) : ∀ ds : List (κ × D), noRefK j ds = true → noRefK k ds = true
  | [], _ => by simp only [noRefK]
  | (f, d) :: ds, z => by
    simp only [noRefK, Bool.and_eq_true] at z ⊢
    exact ⟨noRef_le h d z.1, noRefK_le h ds z.2⟩
theorem noRefO_le {j k : Nat} (h : j ≤ k) (o : MO) (z : noRefO j o = true) : noRefO k o = true := by
  cases o with
  | lst ds => exact noRefs_le h ds z
  | dk ds => exact noRefK_le h ds z
  | dt ds => exact noRefK_le h ds z
  | ins c ds => exact noRefK_le h ds z
theorem wf_le {j k : Nat} {st : Sto} (h : j ≤ k) (z : wf j st) : wf k st := List.all_eq_true.mpr fun o ho => noRefO_le h o (List.all_eq_true.mp z o ho)
theorem noRefs_all {k : Nat} : ∀ ds : List D, noRefs k ds = ds.all (noRef k)
  | [] => by simp only [noRefs, List.all_nil]
  | d :: ds => by simp only [noRefs, List.all_cons, noRefs_all ds]
theorem noRefs_ints {k : Nat} (ns : List Int) : noRefs k (ns.map .int) = true := by
  rw [noRefs_all, List.all_map]
  exact List.all_eq_true.mpr fun _ _ => by simp only [Function.comp, noRef]

/-! ### walks of ints and of data -/
theorem fRun_nil {g : D → En → Option En} {b : SM} {e : En} {st : Sto} : fRun g b none [] e st = .nx e st := by rw [fRun]; exact if_pos trivial
theorem fRun_cons {g : D → En → Option En} {b : SM} {d : D} {ds : List D} {e e1 : En} {st : Sto} (h : g d e = some e1) : fRun g b none (d :: ds) e st = match b e1 st with
    | .nx e2 st2 => fRun g b none ds e2 st2
    | .ct e2 st2 => fRun g b none ds e2 st2
    | .bk e2 st2 => .nx e2 st2
    | o => o := by
  rw [fRun, if_pos (show grdOk none st from trivial), h]
  try rfl
theorem fRunG_nil {g : D → En → Option En} {b : SM} {e : En} {st : Sto} {n : Nat} {xs : List D} (hg : st[n]? = some (.lst xs)) : fRun g b (some (n, xs)) [] e st = .nx e st := by rw [fRun]; exact if_pos hg
theorem fRunG_cons {g : D → En → Option En} {b : SM} {d : D} {ds : List D} {e e1 : En} {st : Sto} {n : Nat} {xs : List D} (hg : st[n]? = some (.lst xs)) (h : g d e = some e1) : fRun g b (some (n, xs)) (d :: ds) e st = match b e1 st with
    | .nx e2 st2 => fRun g b (some (n, xs)) ds e2 st2
    | .ct e2 st2 => fRun g b (some (n, xs)) ds e2 st2
    | .bk e2 st2 => .nx e2 st2
    | o => o := by
  rw [fRun, if_pos (show grdOk (some (n, xs)) st from hg), h]
  try rfl
theorem cRun_nil {g : D → En → Option En} {tt : TM} {te : EM} {env : En} {acc : List D} {st : Sto} : cRun g tt te none env acc [] st = some (acc, st) := by rw [cRun]; exact if_pos trivial
/-- a comprehension that changes nothing, over things that don't change -/
theorem cRun_pure {g : D → En → Option En} {tt : TM} {te : EM} {gd : Grd} {env : En} {st : Sto} {p : D → Bool} {f : D → D} (hgd : grdOk gd st) : ∀ {ds : List D} {acc : List D},
    (∀ d ∈ ds, ∃ e1, g d env = some e1 ∧ tt e1 st = .ok (p d) st ∧ (p d = true → te e1 st = .ok (f d) st)) → acc.length + ds.length ≤ sizeLine → cRun g tt te gd env acc ds st = some (acc ++ (ds.filter p).map f, st)
  | [], acc, _, _ => by rw [cRun, if_pos hgd]; simp
  | d :: ds, acc, h, hz => by
    obtain ⟨e1, h1, h2, h3⟩ := h d List.mem_cons_self
    rw [List.length_cons] at hz
    rw [cRun, if_pos hgd]
    simp only [h1]
    rw [h2]
    cases q : p d with
    | true =>
      simp only
      rw [h3 q]
      simp only
      rw [if_pos (by omega), cRun_pure hgd (fun d' hd => h d' (List.mem_cons_of_mem _ hd)) (by rw [List.length_append, List.length_singleton]; omega)]
      rw [List.filter_cons_of_pos q, List.map_cons, List.append_assoc]
      rfl
    | false =>
      simp only
      rw [cRun_pure hgd (fun d' hd => h d' (List.mem_cons_of_mem _ hd)) (by omega), List.filter_cons_of_neg (by rw [q]; decide)]
/-- .. without a test -/
theorem cRun_map {g : D → En → Option En} {te : EM} {gd : Grd} {env : En} {st : Sto} {f : D → D} (hgd : grdOk gd st) {ds : List D} (h : ∀ d ∈ ds, ∃ e1, g d env = some e1 ∧ te e1 st = .ok (f d) st) (hz : ds.length ≤ sizeLine) :
    cRun g tYesM te gd env [] ds st = some (ds.map f, st) := by
  have := cRun_pure (tt := tYesM) (p := fun _ => true) (f := f) (acc := []) hgd (fun d hd => let ⟨e1, a, b⟩ := h d hd; ⟨e1, a, rfl, fun _ => b⟩) (by simpa using hz)
  rwa [List.filter_eq_self.mpr (fun _ _ => rfl)] at this
/-- a comprehension whose elements draw: by a property of stores -/
theorem cRun_ex {g : D → En → Option En} {te : EM} {env : En} {I : Sto → Prop} {R : D → Prop} (hstep : ∀ d st, I st → ∃ e1 y st', g d env = some e1 ∧ te e1 st = .ok y st' ∧ I st' ∧ R y) : ∀ {ds : List D} {acc : List D} {st : Sto}, I st → (∀ y ∈ acc, R y) → acc.length + ds.length ≤ sizeLine →
    ∃ ys st', cRun g tYesM te none env acc ds st = some (ys, st') ∧ I st' ∧ (∀ y ∈ ys, R y) ∧ ys.length = acc.length + ds.length
  | [], acc, st, hI, hR, _ => ⟨acc, st, cRun_nil, hI, hR, by simp⟩
  | d :: ds, acc, st, hI, hR, hz => by
    obtain ⟨e1, y, st1, h1, h2, h3, h4⟩ := hstep d st hI
    rw [List.length_cons] at hz
    obtain ⟨ys, st2, k1, k2, k3, k4⟩ := cRun_ex hstep (ds := ds) (acc := acc ++ [y]) h3 (fun z hm => by
      rcases List.mem_append.mp hm with hm | hm
      · exact hR z hm
      · rw [List.mem_singleton.mp hm]; exact h4) (by rw [List.length_append, List.length_singleton]; omega)
    refine ⟨ys, st2, ?_, k2, k3, by rw [k4, List.length_append, List.length_singleton, List.length_cons]; omega⟩
    rw [cRun, if_pos (show grdOk none st from trivial)]
    simp only [h1, tYesM]
    rw [h2]
    simp only
    rw [if_pos (by omega)]
    exact k1
theorem sizeLine_big : (2 : Nat) ^ 20 ≤ sizeLine := by decide
end Mi

namespace Mi
open PySem L2

/-! ## what a term does, step by step -/
section
variable {α β : Type} {e : En} {st : Sto}
theorem bind_cg {o o' : Out α} {k : α → Sto → Out β} (h : o = o') : o.bind k = o'.bind k := by rw [h]
theorem toS_cg {o o' : Out α} {e : En} {k : α → Sto → SO} (h : o = o') : o.toS e k = o'.toS e k := by rw [h]
theorem opt_cg {o o' : Out α} {k : α → Sto → Option (En × Sto)} (h : o = o') : o.opt k = o'.opt k := by rw [h]
theorem seq_cg {o o' : SO} {b : SM} (h : o = o') : o.seq b = o'.seq b := by rw [h]
theorem opt_ok {a : α} {k : α → Sto → Option (En × Sto)} : (Out.ok a st).opt k = k a st := of_eq_true (eq_self _)
theorem x_var {i : Nat} : mVar i e st = match e[i]? with
  | some (some d) => .ok d st
  | _ => .bad := rfl
theorem x_c {d : D} : mC d e st = .ok d st := rfl
theorem x_bin {f : D → D → Sto → Out D} {a b : EM} : mBin f a b e st = (a e st).bind fun x st1 => (b e st1).bind fun y st2 => f x y st2 := rfl
theorem x_un {f : D → Sto → Out D} {a : EM} : mUn f a e st = (a e st).bind f := rfl
theorem x_fn {f : List D → Sto → Out D} {a : AM} : mFn f a e st = (a e st).bind f := rfl
theorem x_bm {f : D → List D → Sto → Out D} {a : EM} {r : AM} : mBM f a r e st = (a e st).bind fun x st1 => if isL st1 x = true then (r e st1).bind (f x) else .bad := rfl
theorem x_tst {c : EM} : mTst c e st = (c e st).bind fun d st1 => match d with
  | .bl b => .ok b st1
  | _ => .bad := rfl
theorem x_notT {c : TM} : mNotT c e st = (c e st).bind fun b st1 => .ok (!b) st1 := rfl
theorem x_andT {c d : TM} : mAndT c d e st = (c e st).bind fun b st1 => if b = true then d e st1 else .ok false st1 := rfl
theorem x_orT {c d : TM} : mOrT c d e st = (c e st).bind fun b st1 => if b = true then .ok true st1 else d e st1 := rfl
theorem x_if {c : TM} {a b : EM} : mIf c a b e st = (c e st).bind fun k st1 => if k = true then a e st1 else b e st1 := rfl
theorem x_not {c : EM} : mNot c e st = (mTst c e st).bind fun b st1 => .ok (.bl (!b)) st1 := rfl
theorem x_and {c d : EM} : mAnd c d e st = (mTst c e st).bind fun b st1 => if b = true then d e st1 else .ok (.bl false) st1 := rfl
theorem x_or {c d : EM} : mOr c d e st = (mTst c e st).bind fun b st1 => if b = true then .ok (.bl true) st1 else d e st1 := rfl
theorem x_nil : aNil e st = .ok [] st := rfl
theorem x_cons {a : EM} {r : AM} : aCons a r e st = (a e st).bind fun x st1 => (r e st1).bind fun xs st2 => .ok (x :: xs) st2 := rfl
theorem x_star {a : EM} {r : AM} : aStar a r e st = (a e st).bind fun x st1 => match seqv st1 x with
  | some ys => (r e st1).bind fun xs st2 => .ok (ys ++ xs) st2
  | none => .bad := rfl
theorem x_tup {a : AM} : mTup a e st = (a e st).bind fun xs st1 => if xs.length ≤ sizeLine then .ok (.tup xs) st1 else .bad := rfl
theorem x_lst {own : Bool} {a : AM} : mLst own a e st = (a e st).bind fun xs st1 => if xs.length ≤ sizeLine then mkL own xs st1 else .bad := rfl
theorem x_call {F : List D → Sto → Out D} {n m : Nat} {π : List Nat} {a k : AM} : mCall F n m π a k e st = (a e st).bind fun ds st1 => (k e st1).bind fun es st2 => if ds.length = n ∧ es.length = m then F (sel π (ds ++ es)) st2 else .bad := rfl
theorem x_sl {own : Bool} {a lo hi : EM} : mSl own a lo hi e st = (a e st).bind fun x st1 => (lo e st1).bind fun l st2 => match partO l with
  | some l' => (hi e st2).bind fun u st3 => match partO u with
    | some u' => fSl own x l' u' st3
    | none => .bad
  | none => .bad := rfl
theorem x_oN : oNone e st = .ok .non st := rfl
theorem x_oS {c : EM} : oSome c e st = (c e st).bind fun d st1 => match d with
  | .int i => .ok (.int i) st1
  | _ => .bad := rfl
theorem x_lrg {own : Bool} {c : IM} : mLstRg own c e st = (c e st).bind fun x st1 => if x.1.length ≤ sizeLine then mkL own x.1 st1 else .bad := rfl
theorem x_trg {c : IM} : mTupRg c e st = (c e st).bind fun x st1 => if x.1.length ≤ sizeLine then .ok (.tup x.1) st1 else .bad := rfl
theorem x_comp {own : Bool} {c : IM} {g : D → En → Option En} {vs : List Nat} {tt : TM} {te : EM} : mComp own c g vs tt te e st = (c e st).bind fun x st1 => match cRun g tt te x.2 (wipeE e vs) [] x.1 st1 with
  | some (acc, st2) => mkL own acc st2
  | none => .bad := rfl
theorem x_iseq {c : EM} : iSeq c e st = (c e st).bind walkD := rfl
theorem x_rg1 {c : EM} : iRg1 c e st = (c e st).bind fun d st1 => match d with
  | .int j => if -(2 ^ 62) ≤ j ∧ j < 2 ^ 62 then .ok (rangeD 0 j.toNat, none) st1 else .bad
  | _ => .bad := rfl
theorem x_rg2 {c c2 : EM} : iRg2 c c2 e st = (c e st).bind fun d st1 => (c2 e st1).bind fun d2 st2 => match d, d2 with
  | .int i, .int j => if -(2 ^ 62) ≤ i ∧ i < 2 ^ 62 ∧ -(2 ^ 62) ≤ j ∧ j < 2 ^ 62 then .ok (rangeD i (j - i).toNat, none) st2 else .bad
  | _, _ => .bad := rfl
theorem x_enum {c : EM} : iEnum c e st = (c e st).bind fun d st1 => (walkD d st1).bind fun x st2 => .ok (enumI x) st2 := rfl
theorem x_zip {c c2 : EM} : iZip c c2 e st = (c e st).bind fun d st1 => (c2 e st1).bind fun d2 st2 => zipI d d2 st2 := rfl
theorem x_yes : tYesM e st = .ok true st := rfl
theorem x_mk : mDk e st = .ok (.ref st.length) (st ++ [.dk []]) := rfl
theorem x_mt : mDt e st = .ok (.ref st.length) (st ++ [.dt []]) := rfl
theorem x_fld {tab : List (Str × Str)} {f : Str} {c : EM} : mFld tab f c e st = (c e st).bind fun x st1 => match getF tab f x st1 with
  | some d => .ok d st1
  | none => .bad := rfl
end
section
variable {e : En} {st : Sto}
theorem x_snil : sNil e st = .nx e st := rfl
theorem x_seq {a b : SM} : sSeq a b e st = (a e st).seq b := rfl
theorem x_set {i : Nat} {c : EM} : sSet i c e st = (c e st).toS e fun d st1 => .nx (e.set i (some d)) st1 := rfl
theorem x_ret {c : EM} : sRet c e st = (c e st).toS e fun d st1 => .rt d st1 := rfl
theorem x_sif {c : TM} {a b : SM} : sIf c a b e st = (c e st).toS e fun k st1 => if k = true then a e st1 else b e st1 := rfl
theorem x_drop {c : EM} : sDrop c e st = (c e st).toS e fun _ st1 => .nx e st1 := rfl
theorem x_raise {x : Str} {c : EM} : sRaise x c e st = (c e st).toS e fun d st1 => .exc x (some d) e st1 := rfl
theorem x_asg {g : D → En → Option En} {c : EM} : sAsg g c e st = (c e st).toS e fun d st1 => match g d e with
  | some e1 => .nx e1 st1
  | none => .bad := rfl
theorem x_par {is : List Nat} {a : AM} : sPar is a e st = (a e st).toS e fun ds st1 => if ds.length = is.length then .nx ((is.zip ds).foldl (fun e p => e.set p.1 (some p.2)) e) st1 else .bad := rfl
theorem x_asgH {g : HM} {c : EM} : sAsgH g c e st = (c e st).toS e fun d st1 => match g d e st1 with
  | some (e1, st2) => .nx e1 st2
  | none => .bad := rfl
theorem x_hsub {ca ci : EM} {d : D} : hSubA ca ci d e st = (ca e st).opt fun x st1 => (ci e st1).opt fun i st2 => (setA x i d st2).map fun st3 => (e, st3) := rfl
theorem x_for {c : IM} {g : D → En → Option En} {b : SM} : sFor c g b e st = (c e st).toS e fun x st1 => fRun g b x.2 x.1 e st1 := rfl
theorem x_sfld {tab : List (Str × Str)} {f : Str} {ca c : EM} : sFld tab f ca c e st = (c e st).toS e fun d st1 => (ca e st1).toS e fun x st2 => match setF tab f x d st2 with
  | some st3 => .nx e st3
  | none => .bad := rfl
end
/-! ### ops on data -/
section
variable {st : Sto}
theorem f_int {g : Int → Int → D} {i j : Int} : fInt g (.int i) (.int j) st = .ok (g i j) st := rfl
theorem f_intC {C : Int → Int → Prop} [∀ i j, Decidable (C i j)] {g : Int → Int → D} {i j : Int} : fIntC C g (.int i) (.int j) st = if C i j then .ok (g i j) st else .bad := rfl
theorem f_mod {i j : Int} (h : 0 < j) : fMod (.int i) (.int j) st = .ok (.int (i % j)) st := if_pos h
theorem small_log {j : Int} (h1 : 0 ≤ j) (h2 : j < 2 ^ 63) : j.natAbs.log2 < 64 := by
  rcases Nat.eq_zero_or_pos j.natAbs with h | h
  · rw [h]; decide
  · exact (Nat.log2_lt (by omega)).mpr (by omega)
theorem f_div {i j : Int} (h : 0 < j) (h2 : j < 2 ^ 63) : fDiv (.int i) (.int j) st = .ok (.int (i / j)) st := by
  have := small_log (by omega) h2
  exact if_pos ⟨h, by omega⟩
theorem f_mul {own : Bool} {i j : Int} (h1 : 0 ≤ i) (h2 : i < 2 ^ 63) (h3 : 0 ≤ j) (h4 : j < 2 ^ 63) : fMul own (.int i) (.int j) st = .ok (.int (i * j)) st := by
  have := small_log h1 h2
  have := small_log h3 h4
  exact if_pos (by unfold CMulW; omega)
theorem f_add {own : Bool} {i j : Int} : fAdd own (.int i) (.int j) st = .ok (.int (i + j)) st := rfl
theorem py_int {i : Int} : toPy st (.int i) = some (.int i) := by simp only [toPy, pyOf]
theorem py_non : toPy st .non = some .none := by simp only [toPy, pyOf]
theorem py_bl {i : Bool} : toPy st (.bl i) = some (.bool i) := by simp only [toPy, pyOf]
theorem py_str {i : Str} : toPy st (.str i) = some (.str i) := by simp only [toPy, pyOf]
theorem f_eq {neg : Bool} {x y : D} {a b : PyData} (h1 : toPy st x = some a) (h2 : toPy st y = some b) (h3 : SeqAt.shaped a = true) (h4 : SeqAt.shaped b = true) :
    fEq neg x y st = .ok (.bl (if neg = true then !PyData.eqv a b else PyData.eqv a b)) st := by
  unfold fEq
  rw [h1, h2]
  exact if_pos ⟨h3, h4⟩
theorem f_eqI {i j : Int} : fEq false (.int i) (.int j) st = .ok (.bl (decide (i = j))) st := by
  rw [f_eq py_int py_int (by rfl) (by rfl), if_neg (by decide)]
  rfl
theorem f_neI {i j : Int} : fEq true (.int i) (.int j) st = .ok (.bl (!decide (i = j))) st := by
  rw [f_eq py_int py_int (by rfl) (by rfl), if_pos rfl]
  rfl
theorem f_abs {i : Int} : fAbs [.int i] st = .ok (.int (if i < 0 then -i else i)) st := rfl
theorem f_i1 {i : Int} : fInt1 [.int i] st = .ok (.int i) st := rfl
theorem f_max2 {i j : Int} : fMax2 [.int i, .int j] st = .ok (.int (if j > i then j else i)) st := rfl
theorem f_min2 {i j : Int} : fMin2 [.int i, .int j] st = .ok (.int (if j < i then j else i)) st := rfl
theorem f_neg {i : Int} : fNeg (.int i) st = .ok (.int (-i)) st := rfl
theorem ix_tup {xs : List D} {i : Int} {d : D} (h : atI xs i = some d) : fIxA (.tup xs) (.int i) st = .ok d st := by
  show (match atI xs i with
    | some d => Out.ok d st
    | none => .bad) = _
  rw [h]
theorem ix_fl {xs : List D} {i : Int} {d : D} (h : atI xs i = some d) : fIxA (.fl xs) (.int i) st = .ok d st := by
  show (match atI xs i with
    | some d => Out.ok d st
    | none => .bad) = _
  rw [h]
theorem ix_lst {xs : List D} {n : Nat} {i : Int} {d : D} (hn : st[n]? = some (.lst xs)) (h : atI xs i = some d) : fIxA (.ref n) (.int i) st = .ok d st := by
  have : fIxA (.ref n) (.int i) st = (match atI xs i with
    | some d => Out.ok d st
    | none => .bad) := by
    unfold fIxA dGet fIx seqv lstv lsts
    simp only [hn]
    try rfl
  rw [this, h]
theorem atI_nat {xs : List D} {i : Int} {k : Nat} (h : i = (k : Int)) (hk : k < xs.length) : atI xs i = xs[k]? := by
  subst h
  unfold atI ixN
  rw [if_pos (by omega), if_pos (by omega)]
  rfl
theorem atI_last {α : Type} {xs : List α} (h : xs ≠ []) : atI xs (-1) = xs[xs.length - 1]? := by
  have := List.length_pos_iff.mpr h
  unfold atI ixN
  rw [if_neg (by omega), if_pos (by omega)]
  have : ((xs.length : Int) + -1).toNat = xs.length - 1 := by omega
  show xs[((xs.length : Int) + -1).toNat]? = _
  rw [this]
end
end Mi

/-! the draws that the laws share, as terms -/
namespace Dw
open PySem L2 Mi
noncomputable def b__law_draw : SM := (sSeq (sSet 2 (mComp false (iSeq (mSl false (mVar 0) oNone (oSome (mC (.int 48))))) (gN 4) [4] tYesM (mFn fAbs (aCons (mFn fInt1 (aCons (mVar 4) aNil)) aNil))))
    (sSeq (sSet 3 (mBin (fAdd false) (mC (.int 7919)) (mBin (fMul false) (mC (.int 104729)) (mVar 1))))
    (sSeq (sFor (iSeq (mVar 2)) (gN 4) (sSet 3 (mBin fMod (mFn fInt1 (aCons (mBin (fAdd false) (mBin (fAdd false) (mBin (fMul false) (mVar 3) (mC (.int 48271))) (mBin fMod (mVar 4) (mC (.int 2147483549)))) (mC (.int 11))) aNil)) (mC (.int 2147483647)))))
    (sRet (mLst true (aCons (mUn (fRev true) (mComp false (iSeq (mVar 2)) (gN 4) [4] (mTst (mBin fGe (mVar 4) (mBin fPow (mC (.int 10)) (mC (.int 18))))) (mVar 4))) (aCons (mVar 3) aNil)))))))
noncomputable def F__law_draw : List D → Sto → Out D := fnM 5 2 b__law_draw
noncomputable def b__law_any : SM := (sSeq (sWhile (mAndT (mTst (mBin (fEq true) (mBin fIxA (mVar 0) (mC (.int 0))) (mLst false aNil))) (mTst (mBin (fEq false) (mBin fIxA (mBin fIxA (mVar 0) (mC (.int 0))) (mUn fNeg (mC (.int 1)))) (mC (.int 0))))) (sDrop (mBM fPop (mBin fIxA (mVar 0) (mC (.int 0))) aNil)))
    (sSeq (sIf (mTst (mBin (fEq true) (mBin fIxA (mVar 0) (mC (.int 0))) (mLst false aNil))) (sSeq (sSet 2 (mFn fInt1 (aCons (mBM fPop (mBin fIxA (mVar 0) (mC (.int 0))) aNil) aNil)))
    (sSeq (sDrop (mBM fAppend (mBin fIxA (mVar 0) (mC (.int 0))) (aCons (mBin fDiv (mVar 2) (mVar 1)) aNil)))
    (sRet (mBin fMod (mVar 2) (mVar 1))))) sNil)
    (sSeq (sAsgH (hSubA (mVar 0) (mC (.int 1))) (mBin fMod (mFn fInt1 (aCons (mBin (fAdd false) (mBin (fMul false) (mBin fIxA (mVar 0) (mC (.int 1))) (mC (.int 40693))) (mC (.int 71))) aNil)) (mC (.int 2147483647))))
    (sRet (mBin fMod (mFn fInt1 (aCons (mBin fDiv (mBin fIxA (mVar 0) (mC (.int 1))) (mC (.int 64))) aNil)) (mVar 1))))))
noncomputable def F__law_any : List D → Sto → Out D := fnM 3 2 b__law_any
noncomputable def b__law_of : SM := (sRet (mBin fIxA (mVar 1) (mCall F__law_any 2 0 [0, 1] (aCons (mVar 0) (aCons (mFn fLen (aCons (mVar 1) aNil)) aNil)) aNil)))
noncomputable def F__law_of : List D → Sto → Out D := fnM 2 2 b__law_of
noncomputable def b__law_mixed : SM := (sSeq (sPar [2, 3] (aCons (mFn (fList true) (aCons (mVar 1) aNil)) (aCons (mLst true aNil) aNil)))
    (sSeq (sWhile (mTst (mBin (fEq true) (mVar 2) (mLst false aNil))) (sDrop (mBM fAppend (mVar 3) (aCons (mBM fPop (mVar 2) (aCons (mCall F__law_any 2 0 [0, 1] (aCons (mVar 0) (aCons (mFn fLen (aCons (mVar 2) aNil)) aNil)) aNil) aNil)) aNil))))
    (sRet (mVar 3))))
noncomputable def F__law_mixed : List D → Sto → Out D := fnM 4 2 b__law_mixed
noncomputable def b__law_columns : SM := (sRet (mComp false (iRg1 (mFn fLen (aCons (mBin fIxA (mVar 0) (mC (.int 0))) aNil))) (gN 1) [1] tYesM (mComp false (iSeq (mVar 0)) (gN 2) [2] tYesM (mBin fIxA (mVar 2) (mVar 1)))))
noncomputable def F__law_columns : List D → Sto → Out D := fnM 3 1 b__law_columns
noncomputable def b__law_column : SM := (sSeq (sSet 3 (mCall F__law_any 2 0 [0, 1] (aCons (mVar 0) (aCons (mVar 2) aNil)) aNil))
    (sSeq (sIf (mTst (mBin (fEq false) (mVar 1) (mC (.int 0)))) (sRet (mComp false (iRg1 (mVar 2)) (gN 5) [5] tYesM (mBin fMod (mFn fInt1 (aCons (mBin (fAdd false) (mVar 5) (mVar 3)) aNil)) (mVar 2)))) sNil)
    (sSeq (sIf (mTst (mBin (fEq false) (mVar 1) (mC (.int 1)))) (sRet (mBin (fMul false) (mLst false (aCons (mVar 3) aNil)) (mVar 2))) sNil)
    (sSeq (sIf (mTst (mBin (fEq false) (mVar 1) (mC (.int 2)))) (sRet (mComp false (iRg1 (mVar 2)) (gN 5) [5] tYesM (mIf (mTst (mBin (fEq false) (mVar 5) (mC (.int 0)))) (mVar 3) (mVar 5)))) sNil)
    (sSeq (sIf (mTst (mBin (fEq false) (mVar 1) (mC (.int 3)))) (sRet (mComp false (iRg1 (mVar 2)) (gN 5) [5] tYesM (mFn fMax2 (aCons (mC (.int 0)) (aCons (mFn fMin2 (aCons (mBin fSub (mVar 2) (mC (.int 1))) (aCons (mBin fSub (mBin (fAdd false) (mVar 5) (mVar 3)) (mC (.int 1))) aNil))) aNil))))) sNil)
    (sSeq (sIf (mTst (mBin (fEq false) (mVar 1) (mC (.int 4)))) (sRet (mCall F__law_mixed 2 0 [0, 1] (aCons (mVar 0) (aCons (mLstRg false (iRg1 (mVar 2))) aNil)) aNil)) sNil)
    (sSeq (sIf (mTst (mBin (fEq false) (mVar 1) (mC (.int 5)))) (sRet (mComp false (iRg1 (mVar 2)) (gN 5) [5] tYesM (mFn fMax2 (aCons (mVar 5) (aCons (mVar 3) aNil))))) sNil)
    (sSeq (sIf (mTst (mBin (fEq false) (mVar 1) (mC (.int 6)))) (sSeq (sSet 4 (mFn fMax2 (aCons (mC (.int 1)) (aCons (mBin fDiv (mVar 2) (mC (.int 2))) aNil))))
    (sRet (mComp false (iRg1 (mVar 2)) (gN 5) [5] tYesM (mBin (fAdd false) (mBin fMod (mFn fInt1 (aCons (mBin (fAdd false) (mVar 5) (mVar 3)) aNil)) (mVar 4)) (mIf (mAndT (mTst (mBin fGe (mVar 5) (mVar 4))) (mTst (mBin fLe (mBin (fMul false) (mC (.int 2)) (mVar 4)) (mVar 2)))) (mVar 4) (mC (.int 0))))))) sNil)
    (sRet (mComp false (iRg1 (mVar 2)) (gN 5) [5] tYesM (mCall F__law_any 2 0 [0, 1] (aCons (mVar 0) (aCons (mVar 2) aNil)) aNil)))))))))))
noncomputable def F__law_column : List D → Sto → Out D := fnM 6 3 b__law_column
noncomputable def b__law_machine : SM := (sSeq (sPar [2, 3] (aCons (mCall F__law_any 2 0 [0, 1] (aCons (mVar 0) (aCons (mC (.int 12)) aNil)) aNil) (aCons (mCall F__law_of 2 0 [0, 1] (aCons (mVar 0) (aCons (mLst false (aCons (mC (.int 1)) (aCons (mC (.int 2)) (aCons (mC (.int 2)) (aCons (mC (.int 2)) (aCons (mC (.int 3)) aNil)))))) aNil)) aNil) aNil)))
    (sSeq (sIf (mAndT (mTst (mBin (fEq false) (mVar 2) (mC (.int 10)))) (mTst (mBin fGt (mVar 1) (mC (.int 3))))) (sRet (mTup (aCons (mC (.int 2)) (aCons (mLst false (aCons (mLst false (aCons (mC (.int 0)) (aCons (mC (.int 1)) aNil))) (aCons (mLst false (aCons (mC (.int 2)) (aCons (mC (.int 3)) aNil))) (aCons (mLst false (aCons (mC (.int 0)) (aCons (mC (.int 1)) aNil))) (aCons (mLst false (aCons (mC (.int 2)) (aCons (mC (.int 3)) aNil))) aNil))))) aNil)))) sNil)
    (sSeq (sIf (mAndT (mTst (mBin (fEq false) (mVar 2) (mC (.int 11)))) (mTst (mBin fGt (mVar 1) (mC (.int 3))))) (sSeq (sAsg (gT 2 (gsCons (gN 4) (gsCons (gN 5) gsNil))) (mTup (aCons (mCall F__law_any 2 0 [0, 1] (aCons (mVar 0) (aCons (mC (.int 2)) aNil)) aNil) (aCons (mCall F__law_of 2 0 [0, 1] (aCons (mVar 0) (aCons (mLst false (aCons (mC (.int 1)) (aCons (mC (.int 3)) aNil))) aNil)) aNil) aNil))))
    (sRet (mTup (aCons (mC (.int 2)) (aCons (mComp false (iRg1 (mC (.int 4))) (gN 10) [10] tYesM (mLst false (aCons (mBin (fAdd false) (mBin (fMul false) (mC (.int 2)) (mBin fDiv (mVar 10) (mC (.int 2)))) (mVar 4)) (aCons (mIf (mTst (mBin (fEq false) (mBin fMod (mVar 10) (mC (.int 2))) (mC (.int 0)))) (mBin fMod (mFn fInt1 (aCons (mBin (fAdd false) (mVar 10) (mVar 5)) aNil)) (mC (.int 4))) (mBin fMod (mFn fInt1 (aCons (mBin (fAdd false) (mVar 10) (mC (.int 2))) aNil)) (mC (.int 4)))) aNil)))) aNil))))) sNil)
    (sSeq (sPar [6, 7] (aCons (mBin (fAdd false) (mC (.int 1)) (mCall F__law_any 2 0 [0, 1] (aCons (mVar 0) (aCons (mVar 1) aNil)) aNil)) (aCons (mLst true aNil) aNil)))
    (sSeq (sFor (iRg1 (mVar 3)) (gN 8) (sSeq (sSet 9 (mIf (mTst (mBin fGt (mVar 2) (mC (.int 7)))) (mCall F__law_any 2 0 [0, 1] (aCons (mVar 0) (aCons (mC (.int 8)) aNil)) aNil) (mVar 2)))
    (sDrop (mBM fAppend (mVar 7) (aCons (mCall F__law_column 3 0 [0, 1, 2] (aCons (mVar 0) (aCons (mVar 9) (aCons (mVar 6) aNil))) aNil) aNil)))))
    (sRet (mTup (aCons (mVar 3) (aCons (mCall F__law_columns 1 0 [0] (aCons (mVar 7) aNil) aNil) aNil)))))))))
noncomputable def F__law_machine : List D → Sto → Out D := fnM 11 2 b__law_machine
noncomputable def b__law_heap : SM := (sSeq (sPar [3, 4] (aCons (mCall F__law_any 2 0 [0, 1] (aCons (mVar 0) (aCons (mC (.int 4)) aNil)) aNil) (aCons (mLst true aNil) aNil)))
    (sSeq (sFor (iRg1 (mVar 2)) (gN 5) (sSeq (sDrop (mBM fAppend (mVar 4) (aCons (mTup (aCons (mVar 3) (aCons (mCall F__law_any 2 0 [0, 1] (aCons (mVar 0) (aCons (mVar 1) aNil)) aNil) aNil))) aNil)))
    (sSet 3 (mBin (fAdd false) (mBin (fAdd false) (mVar 3) (mC (.int 1))) (mCall F__law_any 2 0 [0, 1] (aCons (mVar 0) (aCons (mC (.int 3)) aNil)) aNil)))))
    (sRet (mFn fTuple (aCons (mVar 4) aNil)))))
noncomputable def F__law_heap : List D → Sto → Out D := fnM 6 3 b__law_heap
end Dw

namespace Mi
open PySem L2 Dw

/-! ## draws -/
def dl (big : List Int) (b : Int) (rest : Sto) : Sto := .lst (big.map .int) :: .lst [.ref 0, .int b] :: rest
/-- a store with a deal ahead of it -/
def Dr (rest st : Sto) : Prop := ∃ big b, st = dl big b rest ∧ 0 ≤ b ∧ b < 2147483647 ∧ big.length ≤ 64
section
variable {rest st st1 : Sto}
theorem Dr.len (h : Dr rest st) : st.length = rest.length + 2 := by
  obtain ⟨big, b, rfl, _⟩ := h; rfl
theorem Dr.get (h : Dr rest st) {n : Nat} : st[n + 2]? = rest[n]? := by
  obtain ⟨big, b, rfl, _⟩ := h; rfl
theorem Dr.app (h : Dr rest st) (l : Sto) : Dr (rest ++ l) (st ++ l) := by
  obtain ⟨big, b, rfl, h⟩ := h; exact ⟨big, b, rfl, h⟩
theorem Dr.set (h : Dr rest st) {n : Nat} {o : MO} : Dr (rest.set n o) (st.set (n + 2) o) := by
  obtain ⟨big, b, rfl, h⟩ := h; exact ⟨big, b, rfl, h⟩
theorem Dr.cut {l : Sto} (h : Dr (rest ++ l) st) : ∃ st0, st = st0 ++ l ∧ Dr rest st0 := by
  obtain ⟨big, b, rfl, h⟩ := h; exact ⟨dl big b rest, rfl, big, b, rfl, h⟩
theorem Dr.wf (h : Dr rest st) {k : Nat} (hk : 1 ≤ k) (hw : wf k rest) : Mi.wf k st := by
  obtain ⟨big, b, rfl, _⟩ := h
  unfold Mi.wf dl
  simp only [List.all_cons, noRefO, noRefs, noRefs_ints, noRef, Bool.true_and, Bool.and_true, Bool.and_eq_true, decide_eq_true_eq]
  exact ⟨by omega, hw⟩
end
/-- what a run of statements comes to -/
inductive SP : SO → (En → Sto → Prop) → (D → Sto → Prop) → Prop
  | nx {e : En} {st : Sto} {N : En → Sto → Prop} {R : D → Sto → Prop} (h : N e st) : SP (.nx e st) N R
  | rt {d : D} {st : Sto} {N : En → Sto → Prop} {R : D → Sto → Prop} (h : R d st) : SP (.rt d st) N R
section
variable {N : En → Sto → Prop} {R : D → Sto → Prop} {e e1 : En} {st st1 : Sto} {a b : SM}
theorem sp_seq (h : SP (a e st) (fun e1 st1 => SP (b e1 st1) N R) R) : SP (sSeq a b e st) N R := by
  unfold sSeq
  generalize a e st = o at h ⊢
  cases h with
  | nx h => exact h
  | rt h => exact .rt h
theorem sp_step (h : a e st = .nx e1 st1) (k : SP (b e1 st1) N R) : SP (sSeq a b e st) N R := by
  unfold sSeq
  rw [h]; exact k
theorem sp_rt {d : D} (h : a e st = .rt d st1) (k : R d st1) : SP (a e st) N R := by rw [h]; exact .rt k
theorem sp_nx (h : a e st = .nx e1 st1) (k : N e1 st1) : SP (a e st) N R := by rw [h]; exact .nx k
theorem fn_of {n k : Nat} {c : SM} {ds : List D} {P : D → Sto → Prop} (e0 : En) (hl : ds.length = k) (he : ds.map some ++ List.replicate (n - k) none = e0) (h : SP (c e0 st) (fun _ st' => ∃ d' st'', gcD st.length .non st' = .ok d' st'' ∧ P d' st'') (fun d st' => ∃ d' st'', gcD st.length d st' = .ok d' st'' ∧ P d' st'')) :
    ∃ d st', fnM n k c ds st = .ok d st' ∧ P d st' := by
  unfold fnM
  rw [if_pos hl, he]
  generalize c e0 st = o at h ⊢
  cases h with
  | nx h => exact h
  | rt h => exact h
end

theorem seqv_fl {xs : List D} {st : Sto} : seqv st (.fl xs) = some xs := rfl
theorem toPy_fl {xs : List D} {st : Sto} : toPy st (.fl xs) = (pysOf (pyR st 4) xs).map .list := by simp only [toPy, pyOf]
theorem pysOf_ints {f : Nat → Option PyData} : ∀ {ns : List Int}, pysOf f (ns.map .int) = some (ns.map .int)
  | [] => rfl
  | n :: ns => by simp only [List.map_cons, pysOf, pyOf, pysOf_ints, Option.bind_some, Option.map_some]

/-- data that can be compared and shown -/
structure Sm (k n : Nat) (d : PyData) : Prop where
  lay : d.canLay0 = true
  dep : d.depth ≤ k
  shw : d.showable = true
  nod : d.hasDict = false
  len : d.shown.length ≤ n
/-- data that can be compared -/
structure Sh (k : Nat) (d : PyData) : Prop where
  lay : d.canLay0 = true
  dep : d.depth ≤ k
theorem Sm.sh {k n : Nat} {d : PyData} (h : Sm k n d) : Sh k d := ⟨h.lay, h.dep⟩
theorem Sh.shaped {k : Nat} {d : PyData} (h : Sh k d) (hk : k ≤ 64) : SeqAt.shaped d = true := by
  unfold SeqAt.shaped
  rw [h.lay, Bool.true_and]
  exact decide_eq_true (Nat.le_trans h.dep hk)
theorem canLayAll0_of {xs : List PyData} (h : ∀ x ∈ xs, x.canLay0 = true) : PyData.canLayAll0 xs = true := by
  induction xs with
  | nil => simp only [PyData.canLayAll0]
  | cons a r ih =>
    simp only [PyData.canLayAll0, Bool.and_eq_true]
    exact ⟨h a List.mem_cons_self, ih fun x hx => h x (List.mem_cons_of_mem _ hx)⟩
theorem depthAll_of {k : Nat} {xs : List PyData} (h : ∀ x ∈ xs, x.depth ≤ k) : PyData.depthAll xs ≤ k := by
  induction xs with
  | nil => simp only [PyData.depthAll]; omega
  | cons a r ih =>
    simp only [PyData.depthAll]
    exact Nat.max_le.mpr ⟨h a List.mem_cons_self, ih fun x hx => h x (List.mem_cons_of_mem _ hx)⟩
theorem Sh.int {i : Int} : Sh 0 (.int i) := ⟨by simp only [PyData.canLay0], by simp only [PyData.depth]; omega⟩
theorem Sh.bl {i : Bool} : Sh 0 (.bool i) := ⟨by simp only [PyData.canLay0], by simp only [PyData.depth]; omega⟩
theorem Sh.non : Sh 0 .none := ⟨by simp only [PyData.canLay0], by simp only [PyData.depth]; omega⟩
theorem Sh.list {k : Nat} {xs : List PyData} (h : ∀ x ∈ xs, Sh k x) : Sh (k + 1) (.list xs) :=
  ⟨by simp only [PyData.canLay0]; exact canLayAll0_of fun x hx => (h x hx).lay, by simp only [PyData.depth]; exact Nat.succ_le_succ (depthAll_of fun x hx => (h x hx).dep)⟩
theorem Sh.tup {k : Nat} {xs : List PyData} (h : ∀ x ∈ xs, Sh k x) : Sh (k + 1) (.tuple xs) :=
  ⟨by simp only [PyData.canLay0]; exact canLayAll0_of fun x hx => (h x hx).lay, by simp only [PyData.depth]; exact Nat.succ_le_succ (depthAll_of fun x hx => (h x hx).dep)⟩
theorem Sh.up {j k : Nat} {d : PyData} (h : Sh j d) (hk : j ≤ k) : Sh k d := ⟨h.lay, Nat.le_trans h.dep hk⟩
theorem Sh.ints {ns : List Int} : Sh 1 (.list (ns.map .int)) := Sh.list fun x hx => by
  obtain ⟨i, _, rfl⟩ := List.mem_map.mp hx
  exact Sh.int

/-! ### the deal -/
section
variable {big : List Int} {b : Int} {rest : Sto}
theorem py_big : toPy (dl big b rest) (.ref 0) = some (.list (big.map .int)) := by
  simp only [toPy, pyOf, pyR, dl, List.getElem?_cons_zero, pysOf_ints, Option.map_some]
theorem py_fl0 {st : Sto} : toPy st (.fl []) = some (.list []) := by simp only [toPy, pyOf, pysOf, Option.map_some]
theorem big_ne : fEq true (.ref 0) (.fl []) (dl big b rest) = .ok (.bl (decide (big ≠ []))) (dl big b rest) := by
  rw [f_eq py_big py_fl0 (Sh.ints.shaped (by decide)) (Sh.list (k := 0) (fun x hx => by cases hx) |>.shaped (by decide)), if_pos rfl]
  cases big with
  | nil => rfl
  | cons a r => rfl
theorem deal_0 : fIxA (.ref 1) (.int 0) (dl big b rest) = .ok (.ref 0) (dl big b rest) := ix_lst rfl rfl
theorem deal_1 : fIxA (.ref 1) (.int 1) (dl big b rest) = .ok (.int b) (dl big b rest) := ix_lst rfl rfl
theorem big_last {l : List Int} {a : Int} : fIxA (.ref 0) (.int (-1)) (dl (l ++ [a]) b rest) = .ok (.int a) (dl (l ++ [a]) b rest) := by
  refine ix_lst rfl ?_
  rw [atI_last (by simp)]
  simp
theorem big_pop {l : List Int} {a : Int} : fPop (.ref 0) [] (dl (l ++ [a]) b rest) = .ok (.int a) (dl l b rest) := by
  unfold fPop ourL dl
  simp
theorem big_app {l : List Int} {a : Int} (hl : l.length < sizeLine) : fAppend (.ref 0) [.int a] (dl l b rest) = .ok .non (dl (l ++ [a]) b rest) := by
  unfold fAppend ourL dl
  simp [hl]
theorem big_isL : isL (dl big b rest) (.ref 0) = true := rfl
theorem deal_set {c : Int} : setA (.ref 1) (.int 1) (.int c) (dl big b rest) = some (dl big c rest) := by
  unfold setA dPut setD dl
  simp [ixN]
end
end Mi

namespace Mi
open PySem L2 Dw
theorem szl (n : Nat) : (n ≤ sizeLine) = (n ≤ 16777216) := propext ⟨fun h => h, fun h => h⟩
theorem seqv_tup {xs : List D} {st : Sto} : seqv st (.tup xs) = some xs := rfl

theorem any_loop {bd : Int} : ∀ (m : Nat) {big : List Int} {b : Int} {rest : Sto}, big.length = m → ∃ big', sWhile (mAndT (mTst (mBin (fEq true) (mBin fIxA (mVar 0) (mC (.int 0))) (mLst false aNil))) (mTst (mBin (fEq false) (mBin fIxA (mBin fIxA (mVar 0) (mC (.int 0))) (mUn fNeg (mC (.int 1)))) (mC (.int 0))))) (sDrop (mBM fPop (mBin fIxA (mVar 0) (mC (.int 0))) aNil)) [some (.ref 1), some (.int bd), none] (dl big b rest) = .nx [some (.ref 1), some (.int bd), none] (dl big' b rest) ∧ big'.length ≤ m := by
  intro m
  induction m with
  | zero =>
    intro big b rest h
    have : big = [] := List.length_eq_zero_iff.mp h
    subst this
    refine ⟨[], ?_, Nat.le_refl _⟩
    rw [sWhile_eq]
    (simp only [bind_exc, toS_exc, seq_exc, seq_rt, x_var, x_c, x_bin, x_un, x_fn, x_bm, x_tst, x_notT, x_andT, x_orT, x_if, x_not, x_and, x_or, x_nil, x_cons, x_star, x_tup, x_lst, x_call, x_sl, x_oN, x_oS, x_lrg, x_trg, x_iseq, x_enum, x_zip, x_yes, x_mk, x_mt, x_fld, x_snil, x_set, x_ret, x_sif, x_drop, x_raise, x_asg, x_par, x_asgH, x_hsub, x_sfld, bind_ok, toS_ok, seq_nx, opt_ok, sel_0, sel_1, sel_2, sel_3, sel_nil, mkL_f, mkL_t, f_int, f_add, f_eqI, f_neI, f_abs, f_i1, f_max2, f_min2, f_neg, List.getElem?_cons_succ, List.getElem?_cons_zero, List.set_cons_succ, List.set_cons_zero, List.length_cons, List.length_nil, List.cons_append, List.nil_append, List.map_cons, List.map_nil, List.zip_cons_cons, List.zip_nil_left, List.zip_nil_right, List.foldl_cons, List.foldl_nil, szl, ite_true, ite_false, Nat.zero_add, Nat.reduceAdd, Nat.reduceSub, ↓reduceIte, and_self, and_true, true_and, Bool.not_true, Bool.not_false, Bool.not_not, Bool.false_eq_true, reduceCtorEq, gN, gT, gsNil, gsCons, hName, hTup, hsNil, hsCons, Option.bind_some, Option.map_some, partO, seqv_tup, seqv_fl, decide_true, decide_false, Nat.reduceLeDiff, deal_0, big_ne]; try rfl)
  | succ m ih =>
    intro big b rest h
    have hb : big ≠ [] := by intro z; rw [z] at h; cases h
    obtain ⟨l, a, rfl⟩ : ∃ l a, big = l ++ [a] := ⟨big.dropLast, big.getLast hb, (List.dropLast_concat_getLast hb).symm⟩
    rw [sWhile_eq]
    by_cases ha : a = 0
    · have hl : l.length = m := by simpa using h
      obtain ⟨big', h1, h2⟩ := @ih l b rest hl
      refine ⟨big', ?_, by omega⟩
      (simp only [bind_exc, toS_exc, seq_exc, seq_rt, x_var, x_c, x_bin, x_un, x_fn, x_bm, x_tst, x_notT, x_andT, x_orT, x_if, x_not, x_and, x_or, x_nil, x_cons, x_star, x_tup, x_lst, x_call, x_sl, x_oN, x_oS, x_lrg, x_trg, x_iseq, x_enum, x_zip, x_yes, x_mk, x_mt, x_fld, x_snil, x_set, x_ret, x_sif, x_drop, x_raise, x_asg, x_par, x_asgH, x_hsub, x_sfld, bind_ok, toS_ok, seq_nx, opt_ok, sel_0, sel_1, sel_2, sel_3, sel_nil, mkL_f, mkL_t, f_int, f_add, f_eqI, f_neI, f_abs, f_i1, f_max2, f_min2, f_neg, List.getElem?_cons_succ, List.getElem?_cons_zero, List.set_cons_succ, List.set_cons_zero, List.length_cons, List.length_nil, List.cons_append, List.nil_append, List.map_cons, List.map_nil, List.zip_cons_cons, List.zip_nil_left, List.zip_nil_right, List.foldl_cons, List.foldl_nil, szl, ite_true, ite_false, Nat.zero_add, Nat.reduceAdd, Nat.reduceSub, ↓reduceIte, and_self, and_true, true_and, Bool.not_true, Bool.not_false, Bool.not_not, Bool.false_eq_true, reduceCtorEq, gN, gT, gsNil, gsCons, hName, hTup, hsNil, hsCons, Option.bind_some, Option.map_some, partO, seqv_tup, seqv_fl, decide_true, decide_false, Nat.reduceLeDiff, deal_0, big_ne, big_last, decide_eq_true hb, decide_eq_true ha, big_isL, big_pop, h1]; try rfl)
    · refine ⟨l ++ [a], ?_, by omega⟩
      (simp only [bind_exc, toS_exc, seq_exc, seq_rt, x_var, x_c, x_bin, x_un, x_fn, x_bm, x_tst, x_notT, x_andT, x_orT, x_if, x_not, x_and, x_or, x_nil, x_cons, x_star, x_tup, x_lst, x_call, x_sl, x_oN, x_oS, x_lrg, x_trg, x_iseq, x_enum, x_zip, x_yes, x_mk, x_mt, x_fld, x_snil, x_set, x_ret, x_sif, x_drop, x_raise, x_asg, x_par, x_asgH, x_hsub, x_sfld, bind_ok, toS_ok, seq_nx, opt_ok, sel_0, sel_1, sel_2, sel_3, sel_nil, mkL_f, mkL_t, f_int, f_add, f_eqI, f_neI, f_abs, f_i1, f_max2, f_min2, f_neg, List.getElem?_cons_succ, List.getElem?_cons_zero, List.set_cons_succ, List.set_cons_zero, List.length_cons, List.length_nil, List.cons_append, List.nil_append, List.map_cons, List.map_nil, List.zip_cons_cons, List.zip_nil_left, List.zip_nil_right, List.foldl_cons, List.foldl_nil, szl, ite_true, ite_false, Nat.zero_add, Nat.reduceAdd, Nat.reduceSub, ↓reduceIte, and_self, and_true, true_and, Bool.not_true, Bool.not_false, Bool.not_not, Bool.false_eq_true, reduceCtorEq, gN, gT, gsNil, gsCons, hName, hTup, hsNil, hsCons, Option.bind_some, Option.map_some, partO, seqv_tup, seqv_fl, decide_true, decide_false, Nat.reduceLeDiff, deal_0, big_ne, big_last, decide_eq_true hb, decide_eq_false ha]; try rfl)

/-- a draw -/
theorem any_ok {rest st : Sto} {k : Int} (h : Dr rest st) (hk : 0 < k) (hk2 : k < 2 ^ 62) : ∃ r st', F__law_any [.ref 1, .int k] st = .ok (.int r) st' ∧ 0 ≤ r ∧ r < k ∧ Dr rest st' := by
  obtain ⟨big, b, rfl, hb0, hb1, hb2⟩ := h
  obtain ⟨big', h1, h2⟩ := @any_loop k big.length big b rest rfl
  have hk3 : k < 2 ^ 63 := by omega
  have z : ∃ r st', fnM 3 2 b__law_any [.ref 1, .int k] (dl big b rest) = .ok r st' ∧ ∃ i, r = .int i ∧ 0 ≤ i ∧ i < k ∧ Dr rest st' := by
    refine fn_of [some (.ref 1), some (.int k), none] rfl rfl ?_
    unfold b__law_any
    refine sp_step h1 ?_
    by_cases hn : big' = []
    · subst hn
      refine sp_step (e1 := [some (.ref 1), some (.int k), none]) (st1 := dl [] b rest) (by (simp only [bind_exc, toS_exc, seq_exc, seq_rt, x_var, x_c, x_bin, x_un, x_fn, x_bm, x_tst, x_notT, x_andT, x_orT, x_if, x_not, x_and, x_or, x_nil, x_cons, x_star, x_tup, x_lst, x_call, x_sl, x_oN, x_oS, x_lrg, x_trg, x_iseq, x_enum, x_zip, x_yes, x_mk, x_mt, x_fld, x_snil, x_set, x_ret, x_sif, x_drop, x_raise, x_asg, x_par, x_asgH, x_hsub, x_sfld, bind_ok, toS_ok, seq_nx, opt_ok, sel_0, sel_1, sel_2, sel_3, sel_nil, mkL_f, mkL_t, f_int, f_add, f_eqI, f_neI, f_abs, f_i1, f_max2, f_min2, f_neg, List.getElem?_cons_succ, List.getElem?_cons_zero, List.set_cons_succ, List.set_cons_zero, List.length_cons, List.length_nil, List.cons_append, List.nil_append, List.map_cons, List.map_nil, List.zip_cons_cons, List.zip_nil_left, List.zip_nil_right, List.foldl_cons, List.foldl_nil, szl, ite_true, ite_false, Nat.zero_add, Nat.reduceAdd, Nat.reduceSub, ↓reduceIte, and_self, and_true, true_and, Bool.not_true, Bool.not_false, Bool.not_not, Bool.false_eq_true, reduceCtorEq, gN, gT, gsNil, gsCons, hName, hTup, hsNil, hsCons, Option.bind_some, Option.map_some, partO, seqv_tup, seqv_fl, decide_true, decide_false, Nat.reduceLeDiff, deal_0, big_ne, decide_eq_false (show ¬ (([] : List Int) ≠ []) by simp)]; try rfl)) ?_
      refine sp_step (e1 := [some (.ref 1), some (.int k), none]) (st1 := dl [] ((b * 40693 + 71) % 2147483647) rest) (by (simp only [bind_exc, toS_exc, seq_exc, seq_rt, x_var, x_c, x_bin, x_un, x_fn, x_bm, x_tst, x_notT, x_andT, x_orT, x_if, x_not, x_and, x_or, x_nil, x_cons, x_star, x_tup, x_lst, x_call, x_sl, x_oN, x_oS, x_lrg, x_trg, x_iseq, x_enum, x_zip, x_yes, x_mk, x_mt, x_fld, x_snil, x_set, x_ret, x_sif, x_drop, x_raise, x_asg, x_par, x_asgH, x_hsub, x_sfld, bind_ok, toS_ok, seq_nx, opt_ok, sel_0, sel_1, sel_2, sel_3, sel_nil, mkL_f, mkL_t, f_int, f_add, f_eqI, f_neI, f_abs, f_i1, f_max2, f_min2, f_neg, List.getElem?_cons_succ, List.getElem?_cons_zero, List.set_cons_succ, List.set_cons_zero, List.length_cons, List.length_nil, List.cons_append, List.nil_append, List.map_cons, List.map_nil, List.zip_cons_cons, List.zip_nil_left, List.zip_nil_right, List.foldl_cons, List.foldl_nil, szl, ite_true, ite_false, Nat.zero_add, Nat.reduceAdd, Nat.reduceSub, ↓reduceIte, and_self, and_true, true_and, Bool.not_true, Bool.not_false, Bool.not_not, Bool.false_eq_true, reduceCtorEq, gN, gT, gsNil, gsCons, hName, hTup, hsNil, hsCons, Option.bind_some, Option.map_some, partO, seqv_tup, seqv_fl, decide_true, decide_false, Nat.reduceLeDiff, deal_1, f_mul (own := false) hb0 (show b < 2 ^ 63 by omega) (show (0 : Int) ≤ 40693 by omega) (show (40693 : Int) < 2 ^ 63 by omega), f_mod (show (0 : Int) < 2147483647 by omega), deal_set]; try rfl)) ?_
      refine sp_rt (d := .int ((b * 40693 + 71) % 2147483647 / 64 % k)) (st1 := dl [] ((b * 40693 + 71) % 2147483647) rest) (by (simp only [bind_exc, toS_exc, seq_exc, seq_rt, x_var, x_c, x_bin, x_un, x_fn, x_bm, x_tst, x_notT, x_andT, x_orT, x_if, x_not, x_and, x_or, x_nil, x_cons, x_star, x_tup, x_lst, x_call, x_sl, x_oN, x_oS, x_lrg, x_trg, x_iseq, x_enum, x_zip, x_yes, x_mk, x_mt, x_fld, x_snil, x_set, x_ret, x_sif, x_drop, x_raise, x_asg, x_par, x_asgH, x_hsub, x_sfld, bind_ok, toS_ok, seq_nx, opt_ok, sel_0, sel_1, sel_2, sel_3, sel_nil, mkL_f, mkL_t, f_int, f_add, f_eqI, f_neI, f_abs, f_i1, f_max2, f_min2, f_neg, List.getElem?_cons_succ, List.getElem?_cons_zero, List.set_cons_succ, List.set_cons_zero, List.length_cons, List.length_nil, List.cons_append, List.nil_append, List.map_cons, List.map_nil, List.zip_cons_cons, List.zip_nil_left, List.zip_nil_right, List.foldl_cons, List.foldl_nil, szl, ite_true, ite_false, Nat.zero_add, Nat.reduceAdd, Nat.reduceSub, ↓reduceIte, and_self, and_true, true_and, Bool.not_true, Bool.not_false, Bool.not_not, Bool.false_eq_true, reduceCtorEq, gN, gT, gsNil, gsCons, hName, hTup, hsNil, hsCons, Option.bind_some, Option.map_some, partO, seqv_tup, seqv_fl, decide_true, decide_false, Nat.reduceLeDiff, deal_1, f_div (show (0 : Int) < 64 by omega) (show (64 : Int) < 2 ^ 63 by omega), f_mod hk]; try rfl)) ?_
      exact ⟨_, _, gcD_same rfl, _, rfl, Int.emod_nonneg _ (by omega), Int.emod_lt_of_pos _ hk, [], _, rfl, Int.emod_nonneg _ (by omega), Int.emod_lt_of_pos _ (by omega), by simp⟩
    · obtain ⟨l, a, rfl⟩ : ∃ l a, big' = l ++ [a] := ⟨big'.dropLast, big'.getLast hn, (List.dropLast_concat_getLast hn).symm⟩
      have hl : l.length < sizeLine := by
        have : (l ++ [a]).length = l.length + 1 := by simp
        have : sizeLine = 16777216 := rfl
        omega
      have hr : SP (sIf (mTst (mBin (fEq true) (mBin fIxA (mVar 0) (mC (.int 0))) (mLst false aNil))) (sSeq (sSet 2 (mFn fInt1 (aCons (mBM fPop (mBin fIxA (mVar 0) (mC (.int 0))) aNil) aNil)))
    (sSeq (sDrop (mBM fAppend (mBin fIxA (mVar 0) (mC (.int 0))) (aCons (mBin fDiv (mVar 2) (mVar 1)) aNil)))
    (sRet (mBin fMod (mVar 2) (mVar 1))))) sNil [some (.ref 1), some (.int k), none] (dl (l ++ [a]) b rest)) (fun _ _ => False) (fun d st' => d = .int (a % k) ∧ st' = dl (l ++ [a / k]) b rest) := by
        (simp only [bind_exc, toS_exc, seq_exc, seq_rt, x_var, x_c, x_bin, x_un, x_fn, x_bm, x_tst, x_notT, x_andT, x_orT, x_if, x_not, x_and, x_or, x_nil, x_cons, x_star, x_tup, x_lst, x_call, x_sl, x_oN, x_oS, x_lrg, x_trg, x_iseq, x_enum, x_zip, x_yes, x_mk, x_mt, x_fld, x_snil, x_set, x_ret, x_sif, x_drop, x_raise, x_asg, x_par, x_asgH, x_hsub, x_sfld, bind_ok, toS_ok, seq_nx, opt_ok, sel_0, sel_1, sel_2, sel_3, sel_nil, mkL_f, mkL_t, f_int, f_add, f_eqI, f_neI, f_abs, f_i1, f_max2, f_min2, f_neg, List.getElem?_cons_succ, List.getElem?_cons_zero, List.set_cons_succ, List.set_cons_zero, List.length_cons, List.length_nil, List.cons_append, List.nil_append, List.map_cons, List.map_nil, List.zip_cons_cons, List.zip_nil_left, List.zip_nil_right, List.foldl_cons, List.foldl_nil, szl, ite_true, ite_false, Nat.zero_add, Nat.reduceAdd, Nat.reduceSub, ↓reduceIte, and_self, and_true, true_and, Bool.not_true, Bool.not_false, Bool.not_not, Bool.false_eq_true, reduceCtorEq, gN, gT, gsNil, gsCons, hName, hTup, hsNil, hsCons, Option.bind_some, Option.map_some, partO, seqv_tup, seqv_fl, decide_true, decide_false, Nat.reduceLeDiff, deal_0, big_ne, decide_eq_true hn]; try rfl)
        refine sp_step (e1 := [some (.ref 1), some (.int k), some (.int a)]) (st1 := dl l b rest) (by (simp only [bind_exc, toS_exc, seq_exc, seq_rt, x_var, x_c, x_bin, x_un, x_fn, x_bm, x_tst, x_notT, x_andT, x_orT, x_if, x_not, x_and, x_or, x_nil, x_cons, x_star, x_tup, x_lst, x_call, x_sl, x_oN, x_oS, x_lrg, x_trg, x_iseq, x_enum, x_zip, x_yes, x_mk, x_mt, x_fld, x_snil, x_set, x_ret, x_sif, x_drop, x_raise, x_asg, x_par, x_asgH, x_hsub, x_sfld, bind_ok, toS_ok, seq_nx, opt_ok, sel_0, sel_1, sel_2, sel_3, sel_nil, mkL_f, mkL_t, f_int, f_add, f_eqI, f_neI, f_abs, f_i1, f_max2, f_min2, f_neg, List.getElem?_cons_succ, List.getElem?_cons_zero, List.set_cons_succ, List.set_cons_zero, List.length_cons, List.length_nil, List.cons_append, List.nil_append, List.map_cons, List.map_nil, List.zip_cons_cons, List.zip_nil_left, List.zip_nil_right, List.foldl_cons, List.foldl_nil, szl, ite_true, ite_false, Nat.zero_add, Nat.reduceAdd, Nat.reduceSub, ↓reduceIte, and_self, and_true, true_and, Bool.not_true, Bool.not_false, Bool.not_not, Bool.false_eq_true, reduceCtorEq, gN, gT, gsNil, gsCons, hName, hTup, hsNil, hsCons, Option.bind_some, Option.map_some, partO, seqv_tup, seqv_fl, decide_true, decide_false, Nat.reduceLeDiff, deal_0, big_isL, big_pop]; try rfl)) ?_
        refine sp_step (e1 := [some (.ref 1), some (.int k), some (.int a)]) (st1 := dl (l ++ [a / k]) b rest) (by (simp only [bind_exc, toS_exc, seq_exc, seq_rt, x_var, x_c, x_bin, x_un, x_fn, x_bm, x_tst, x_notT, x_andT, x_orT, x_if, x_not, x_and, x_or, x_nil, x_cons, x_star, x_tup, x_lst, x_call, x_sl, x_oN, x_oS, x_lrg, x_trg, x_iseq, x_enum, x_zip, x_yes, x_mk, x_mt, x_fld, x_snil, x_set, x_ret, x_sif, x_drop, x_raise, x_asg, x_par, x_asgH, x_hsub, x_sfld, bind_ok, toS_ok, seq_nx, opt_ok, sel_0, sel_1, sel_2, sel_3, sel_nil, mkL_f, mkL_t, f_int, f_add, f_eqI, f_neI, f_abs, f_i1, f_max2, f_min2, f_neg, List.getElem?_cons_succ, List.getElem?_cons_zero, List.set_cons_succ, List.set_cons_zero, List.length_cons, List.length_nil, List.cons_append, List.nil_append, List.map_cons, List.map_nil, List.zip_cons_cons, List.zip_nil_left, List.zip_nil_right, List.foldl_cons, List.foldl_nil, szl, ite_true, ite_false, Nat.zero_add, Nat.reduceAdd, Nat.reduceSub, ↓reduceIte, and_self, and_true, true_and, Bool.not_true, Bool.not_false, Bool.not_not, Bool.false_eq_true, reduceCtorEq, gN, gT, gsNil, gsCons, hName, hTup, hsNil, hsCons, Option.bind_some, Option.map_some, partO, seqv_tup, seqv_fl, decide_true, decide_false, Nat.reduceLeDiff, deal_0, big_isL, f_div hk hk3, big_app hl]; try rfl)) ?_
        refine sp_rt (d := .int (a % k)) (st1 := dl (l ++ [a / k]) b rest) (by (simp only [bind_exc, toS_exc, seq_exc, seq_rt, x_var, x_c, x_bin, x_un, x_fn, x_bm, x_tst, x_notT, x_andT, x_orT, x_if, x_not, x_and, x_or, x_nil, x_cons, x_star, x_tup, x_lst, x_call, x_sl, x_oN, x_oS, x_lrg, x_trg, x_iseq, x_enum, x_zip, x_yes, x_mk, x_mt, x_fld, x_snil, x_set, x_ret, x_sif, x_drop, x_raise, x_asg, x_par, x_asgH, x_hsub, x_sfld, bind_ok, toS_ok, seq_nx, opt_ok, sel_0, sel_1, sel_2, sel_3, sel_nil, mkL_f, mkL_t, f_int, f_add, f_eqI, f_neI, f_abs, f_i1, f_max2, f_min2, f_neg, List.getElem?_cons_succ, List.getElem?_cons_zero, List.set_cons_succ, List.set_cons_zero, List.length_cons, List.length_nil, List.cons_append, List.nil_append, List.map_cons, List.map_nil, List.zip_cons_cons, List.zip_nil_left, List.zip_nil_right, List.foldl_cons, List.foldl_nil, szl, ite_true, ite_false, Nat.zero_add, Nat.reduceAdd, Nat.reduceSub, ↓reduceIte, and_self, and_true, true_and, Bool.not_true, Bool.not_false, Bool.not_not, Bool.false_eq_true, reduceCtorEq, gN, gT, gsNil, gsCons, hName, hTup, hsNil, hsCons, Option.bind_some, Option.map_some, partO, seqv_tup, seqv_fl, decide_true, decide_false, Nat.reduceLeDiff, f_mod hk]; try rfl)) ⟨rfl, rfl⟩
      refine sp_seq ?_
      generalize sIf _ _ _ _ _ = o at hr ⊢
      cases hr with
      | nx h => exact h.elim
      | rt hr =>
        obtain ⟨rfl, rfl⟩ := hr
        refine .rt ?_
        exact ⟨_, _, gcD_same rfl, _, rfl, Int.emod_nonneg _ (by omega), Int.emod_lt_of_pos _ hk, _, _, rfl, hb0, hb1, by simp at h2 ⊢; omega⟩
  obtain ⟨r, st', h3, i, rfl, h4, h5, h6⟩ := z
  exact ⟨i, st', h3, h4, h5, h6⟩
end Mi

namespace Mi
open PySem L2 Dw
section
variable {N : En → Sto → Prop} {R : D → Sto → Prop} {e e1 : En} {st st1 : Sto} {a b : SM} {c : TM}
theorem sp_ift (h : c e st = .ok true st1) (k : SP (a e st1) N R) : SP (sIf c a b e st) N R := by
  rw [x_sif, h, toS_ok, if_pos rfl]; exact k
theorem sp_iff (h : c e st = .ok false st1) (k : SP (b e st1) N R) : SP (sIf c a b e st) N R := by
  rw [x_sif, h, toS_ok, if_neg (by decide)]; exact k
theorem sp_ret {c : EM} {d : D} (h : c e st = .ok d st1) (k : R d st1) : SP (sRet c e st) N R := by rw [x_ret, h]; exact .rt k
/-- a test that skips -/
theorem sp_skip {b2 : SM} (h : c e st = .ok false st1) (k : SP (b2 e st1) N R) : SP (sSeq (sIf c a sNil) b2 e st) N R := sp_step (by rw [x_sif, h, toS_ok, if_neg (by decide)]; rfl) k
/-- a test that leaves -/
theorem sp_leave {b2 : SM} (h : c e st = .ok true st1) (k : SP (a e st1) (fun _ _ => False) R) : SP (sSeq (sIf c a sNil) b2 e st) N R := by
  refine sp_seq ?_
  rw [x_sif, h, toS_ok, if_pos rfl]
  generalize a e st1 = o at k ⊢
  cases k with
  | nx h => exact h.elim
  | rt h => exact .rt h
theorem sp_mono {o : SO} {N' : En → Sto → Prop} {R' : D → Sto → Prop} (h : SP o N R) (hN : ∀ e st, N e st → N' e st) (hR : ∀ d st, R d st → R' d st) : SP o N' R' := by
  cases h with
  | nx h => exact .nx (hN _ _ h)
  | rt h => exact .rt (hR _ _ h)
/-- a walk that keeps something -/
theorem sp_run {g : D → En → Option En} {I : Nat → En → Sto → Prop} (ds : List D) : ∀ (i : Nat), I i e st → (∀ j d e st, i ≤ j → ds[j - i]? = some d → I j e st → ∃ e1, g d e = some e1 ∧ SP (b e1 st) (I (j + 1)) R) → (∀ e st, I (i + ds.length) e st → N e st) → SP (fRun g b none ds e st) N R := by
  induction ds generalizing e st with
  | nil => intro i hI _ hN; rw [fRun_nil]; exact .nx (hN e st hI)
  | cons d ds ih =>
    intro i hI hs hN
    obtain ⟨e1, h1, h2⟩ := hs i d e st (Nat.le_refl _) (by rw [Nat.sub_self]; rfl) hI
    rw [fRun_cons h1]
    generalize b e1 st = o at h2 ⊢
    cases h2 with
    | nx h2 =>
      exact ih (i + 1) h2 (fun j d' e st hj hd hI => hs j d' e st (by omega) (by
        have : j - i = (j - (i + 1)) + 1 := by omega
        rw [this]; exact hd) hI) (fun e st h => hN e st (by rw [List.length_cons]; rw [show i + (ds.length + 1) = i + 1 + ds.length by omega]; exact h))
    | rt h2 => exact .rt h2
end
/-- a comprehension over what a list of things stands for -/
theorem cRun_of {α : Type} {g : D → En → Option En} {tt : TM} {te : EM} {gd : Grd} {env : En} {st : Sto} (mk : α → D) (p : α → Bool) (f : α → D) (hgd : grdOk gd st) : ∀ {xs : List α} {acc : List D},
    (∀ x ∈ xs, ∃ e1, g (mk x) env = some e1 ∧ tt e1 st = .ok (p x) st ∧ (p x = true → te e1 st = .ok (f x) st)) → acc.length + xs.length ≤ sizeLine → cRun g tt te gd env acc (xs.map mk) st = some (acc ++ (xs.filter p).map f, st)
  | [], acc, _, _ => by rw [List.map_nil, cRun, if_pos hgd]; simp
  | d :: ds, acc, h, hz => by
    obtain ⟨e1, h1, h2, h3⟩ := h d List.mem_cons_self
    rw [List.length_cons] at hz
    rw [List.map_cons, cRun, if_pos hgd]
    simp only [h1]
    rw [h2]
    cases q : p d with
    | true =>
      simp only
      rw [h3 q]
      simp only
      rw [if_pos (by omega), cRun_of mk p f hgd (fun d' hd => h d' (List.mem_cons_of_mem _ hd)) (by rw [List.length_append, List.length_singleton]; omega)]
      rw [List.filter_cons_of_pos q, List.map_cons, List.append_assoc]
      rfl
    | false =>
      simp only
      rw [cRun_of mk p f hgd (fun d' hd => h d' (List.mem_cons_of_mem _ hd)) (by omega), List.filter_cons_of_neg (by rw [q]; decide)]
theorem cRun_all {α : Type} {g : D → En → Option En} {te : EM} {gd : Grd} {env : En} {st : Sto} (mk : α → D) (f : α → D) (hgd : grdOk gd st) {xs : List α} (h : ∀ x ∈ xs, ∃ e1, g (mk x) env = some e1 ∧ te e1 st = .ok (f x) st) (hz : xs.length ≤ sizeLine) :
    cRun g tYesM te gd env [] (xs.map mk) st = some (xs.map f, st) := by
  have := cRun_of (tt := tYesM) mk (fun _ => true) f (acc := []) hgd (fun d hd => let ⟨e1, a, b⟩ := h d hd; ⟨e1, a, rfl, fun _ => b⟩) (by simpa using hz)
  rwa [List.filter_eq_self.mpr (fun _ _ => rfl)] at this
/-! ### data without places -/
def Pv (d : D) (a : PyData) : Prop := ∀ f, pyOf f d = some a
def Pvs (ds : List D) (as : List PyData) : Prop := ∀ f, pysOf f ds = some as
theorem Pv.int {i : Int} : Pv (.int i) (.int i) := fun f => by simp only [pyOf]
theorem Pv.bl {i : Bool} : Pv (.bl i) (.bool i) := fun f => by simp only [pyOf]
theorem Pv.str {i : Str} : Pv (.str i) (.str i) := fun f => by simp only [pyOf]
theorem Pv.non : Pv .non .none := fun f => by simp only [pyOf]
theorem Pvs.nil : Pvs [] [] := fun f => by simp only [pysOf]
theorem Pvs.cons {d : D} {ds : List D} {a : PyData} {as : List PyData} (h : Pv d a) (h2 : Pvs ds as) : Pvs (d :: ds) (a :: as) := fun f => by simp only [pysOf, h f, h2 f, Option.bind_some, Option.map_some]
theorem Pv.tup {ds : List D} {as : List PyData} (h : Pvs ds as) : Pv (.tup ds) (.tuple as) := fun f => by simp only [pyOf, h f, Option.map_some]
theorem Pv.fl {ds : List D} {as : List PyData} (h : Pvs ds as) : Pv (.fl ds) (.list as) := fun f => by simp only [pyOf, h f, Option.map_some]
theorem Pv.rl {ds : List D} {as : List PyData} (h : Pvs ds as) : Pv (.rl ds) (.list as) := fun f => by simp only [pyOf, h f, Option.map_some]
theorem Pv.py {d : D} {a : PyData} (h : Pv d a) {st : Sto} : toPy st d = some a := h _
theorem Pvs.ints {ns : List Int} : Pvs (ns.map .int) (ns.map .int) := fun f => pysOf_ints
theorem Pvs.all {k : Nat} : ∀ {ds : List D}, (∀ d ∈ ds, ∃ a, Pv d a ∧ Sh k a) → ∃ as, Pvs ds as ∧ (∀ a ∈ as, Sh k a) ∧ as.length = ds.length
  | [], _ => ⟨[], Pvs.nil, (fun _ h => by cases h), rfl⟩
  | d :: ds, h => by
    obtain ⟨a, h1, h2⟩ := h d List.mem_cons_self
    obtain ⟨as, h3, h4, h5⟩ := Pvs.all fun x hx => h x (List.mem_cons_of_mem _ hx)
    exact ⟨a :: as, Pvs.cons h1 h3, (fun x hx => by
      rcases List.mem_cons.mp hx with rfl | hx
      · exact h2
      · exact h4 x hx), by rw [List.length_cons, List.length_cons, h5]⟩
theorem Pvs.py {ds : List D} {as : List PyData} (h : Pvs ds as) {st : Sto} {n : Nat} (hn : st[n]? = some (.lst ds)) : toPy st (.ref n) = some (.list as) := by
  simp only [toPy, pyOf, pyR, hn, h _, Option.map_some]
/-- plain data of a depth -/
def PD (k : Nat) (d : D) : Prop := ∃ a, Pv d a ∧ Sh k a
theorem PD.int {i : Int} : PD 0 (.int i) := ⟨_, Pv.int, Sh.int⟩
theorem PD.bl {i : Bool} : PD 0 (.bl i) := ⟨_, Pv.bl, Sh.bl⟩
theorem PD.non : PD 0 .non := ⟨_, Pv.non, Sh.non⟩
theorem PD.tup {k : Nat} {ds : List D} (h : ∀ d ∈ ds, PD k d) : PD (k + 1) (.tup ds) := by
  obtain ⟨as, h1, h2, _⟩ := Pvs.all h
  exact ⟨_, Pv.tup h1, Sh.tup h2⟩
theorem PD.fl {k : Nat} {ds : List D} (h : ∀ d ∈ ds, PD k d) : PD (k + 1) (.fl ds) := by
  obtain ⟨as, h1, h2, _⟩ := Pvs.all h
  exact ⟨_, Pv.fl h1, Sh.list h2⟩
theorem PD.up {j k : Nat} {d : D} (h : PD j d) (hk : j ≤ k) : PD k d := by
  obtain ⟨a, h1, h2⟩ := h
  exact ⟨a, h1, h2.up hk⟩
theorem eqvAll_nil {as : List PyData} : PyData.eqvAll as [] = decide (as = []) := by
  cases as with
  | nil => simp only [PyData.eqvAll, decide_true]
  | cons a r => simp only [PyData.eqvAll, reduceCtorEq, decide_false]
/-- a list against [] -/
theorem ne_nil {st : Sto} {n : Nat} {ds : List D} {k : Nat} (hn : st[n]? = some (.lst ds)) (h : ∀ d ∈ ds, PD k d) (hk : k ≤ 60) : fEq true (.ref n) (.fl []) st = .ok (.bl (decide (ds ≠ []))) st := by
  obtain ⟨as, h1, h2, h3⟩ := Pvs.all h
  rw [f_eq (h1.py hn) py_fl0 ((Sh.list h2).shaped (by omega)) (Sh.list (k := 0) (fun x hx => by cases hx) |>.shaped (by decide)), if_pos rfl]
  have : PyData.eqv (.list as) (.list []) = PyData.eqvAll as [] := by simp only [PyData.eqv]
  rw [this, eqvAll_nil]
  cases ds with
  | nil => rw [List.length_eq_zero_iff.mp h3]; rfl
  | cons d r =>
    cases as with
    | nil => cases h3
    | cons a r => rfl
end Mi

namespace Mi
open PySem L2 Dw
theorem sizeV : sizeLine = 16777216 := rfl
theorem cutD_ints {ns : List Int} {lo hi : Option Int} : ∃ ms : List Int, cutD (ns.map D.int) lo hi = ms.map .int ∧ ms.length ≤ ns.length ∧ ∀ m ∈ ms, m ∈ ns := by
  refine ⟨(ns.drop (HT.sIx (ns.map D.int).length 0 lo)).take (HT.sIx (ns.map D.int).length (ns.map D.int).length hi - HT.sIx (ns.map D.int).length 0 lo), ?_, ?_, ?_⟩
  · unfold cutD
    rw [List.map_take, List.map_drop]
  · rw [List.length_take, List.length_drop]
    omega
  · intro m hm
    exact List.mem_of_mem_drop (List.mem_of_mem_take hm)
/-- the beginning of every law -/
theorem draw_ok {ns : List Int} (hn : ns.length ≤ 63) {salt : Int} (h0 : 0 ≤ salt) (h1 : salt < 20000) : ∃ st', F__law_draw [.rl (ns.map .int), .int salt] [] = .ok (.ref 1) st' ∧ Dr [] st' := by
  obtain ⟨ms, hm, hl, _⟩ := @cutD_ints ns none (some 48)
  have hs : ∀ st : Sto, fSl false (.rl (ns.map .int)) none (some 48) st = .ok (.fl (ms.map .int)) st := fun st => by
    rw [← hm]; rfl
  have z : ∃ r st', fnM 5 2 b__law_draw [.rl (ns.map .int), .int salt] [] = .ok r st' ∧ r = .ref 1 ∧ Dr [] st' := by
    refine fn_of [some (.rl (ns.map .int)), some (.int salt), none, none, none] rfl rfl ?_
    unfold b__law_draw
    let ab : Int → Int := fun i => if i < 0 then -i else i
    refine sp_step (e1 := [some (.rl (ns.map .int)), some (.int salt), some (.fl ((ms.map ab).map .int)), none, none]) (st1 := []) (by
      have hc : cRun (gN 4) tYesM (mFn fAbs (aCons (mFn fInt1 (aCons (mVar 4) aNil)) aNil)) none [some (.rl (ns.map .int)), some (.int salt), none, none, none] [] (ms.map .int) [] = some (ms.map (fun i => D.int (ab i)), []) := by
        refine cRun_all D.int _ (show grdOk none [] from trivial) (fun i hi => ⟨_, rfl, ?_⟩) (by rw [sizeV]; omega)
        (simp only [bind_exc, toS_exc, seq_exc, seq_rt, x_var, x_c, x_bin, x_un, x_fn, x_bm, x_tst, x_notT, x_andT, x_orT, x_if, x_not, x_and, x_or, x_nil, x_cons, x_star, x_tup, x_lst, x_call, x_sl, x_oN, x_oS, x_lrg, x_trg, x_iseq, x_enum, x_zip, x_yes, x_mk, x_mt, x_fld, x_snil, x_set, x_ret, x_sif, x_drop, x_raise, x_asg, x_par, x_asgH, x_hsub, x_sfld, bind_ok, toS_ok, seq_nx, opt_ok, sel_0, sel_1, sel_2, sel_3, sel_nil, mkL_f, mkL_t, f_int, f_add, f_eqI, f_neI, f_abs, f_i1, f_max2, f_min2, f_neg, List.getElem?_cons_succ, List.getElem?_cons_zero, List.set_cons_succ, List.set_cons_zero, List.length_cons, List.length_nil, List.cons_append, List.nil_append, List.map_cons, List.map_nil, List.zip_cons_cons, List.zip_nil_left, List.zip_nil_right, List.foldl_cons, List.foldl_nil, szl, ite_true, ite_false, Nat.zero_add, Nat.reduceAdd, Nat.reduceSub, ↓reduceIte, and_self, and_true, true_and, Bool.not_true, Bool.not_false, Bool.not_not, Bool.false_eq_true, reduceCtorEq, gN, gT, gsNil, gsCons, hName, hTup, hsNil, hsCons, Option.bind_some, Option.map_some, partO, seqv_tup, seqv_fl, decide_true, decide_false, Nat.reduceLeDiff]; try rfl)
      (simp only [bind_exc, toS_exc, seq_exc, seq_rt, x_var, x_c, x_bin, x_un, x_fn, x_bm, x_tst, x_notT, x_andT, x_orT, x_if, x_not, x_and, x_or, x_nil, x_cons, x_star, x_tup, x_lst, x_call, x_sl, x_oN, x_oS, x_lrg, x_trg, x_iseq, x_enum, x_zip, x_yes, x_mk, x_mt, x_fld, x_snil, x_set, x_ret, x_sif, x_drop, x_raise, x_asg, x_par, x_asgH, x_hsub, x_sfld, bind_ok, toS_ok, seq_nx, opt_ok, sel_0, sel_1, sel_2, sel_3, sel_nil, mkL_f, mkL_t, f_int, f_add, f_eqI, f_neI, f_abs, f_i1, f_max2, f_min2, f_neg, List.getElem?_cons_succ, List.getElem?_cons_zero, List.set_cons_succ, List.set_cons_zero, List.length_cons, List.length_nil, List.cons_append, List.nil_append, List.map_cons, List.map_nil, List.zip_cons_cons, List.zip_nil_left, List.zip_nil_right, List.foldl_cons, List.foldl_nil, szl, ite_true, ite_false, Nat.zero_add, Nat.reduceAdd, Nat.reduceSub, ↓reduceIte, and_self, and_true, true_and, Bool.not_true, Bool.not_false, Bool.not_not, Bool.false_eq_true, reduceCtorEq, gN, gT, gsNil, gsCons, hName, hTup, hsNil, hsCons, Option.bind_some, Option.map_some, partO, seqv_tup, seqv_fl, decide_true, decide_false, Nat.reduceLeDiff, x_comp, hs, walkD, wipeE, hc, List.map_map]; try rfl)) ?_
    refine sp_step (e1 := [some (.rl (ns.map .int)), some (.int salt), some (.fl ((ms.map ab).map .int)), some (.int (7919 + 104729 * salt)), none]) (st1 := []) (by (simp only [bind_exc, toS_exc, seq_exc, seq_rt, x_var, x_c, x_bin, x_un, x_fn, x_bm, x_tst, x_notT, x_andT, x_orT, x_if, x_not, x_and, x_or, x_nil, x_cons, x_star, x_tup, x_lst, x_call, x_sl, x_oN, x_oS, x_lrg, x_trg, x_iseq, x_enum, x_zip, x_yes, x_mk, x_mt, x_fld, x_snil, x_set, x_ret, x_sif, x_drop, x_raise, x_asg, x_par, x_asgH, x_hsub, x_sfld, bind_ok, toS_ok, seq_nx, opt_ok, sel_0, sel_1, sel_2, sel_3, sel_nil, mkL_f, mkL_t, f_int, f_add, f_eqI, f_neI, f_abs, f_i1, f_max2, f_min2, f_neg, List.getElem?_cons_succ, List.getElem?_cons_zero, List.set_cons_succ, List.set_cons_zero, List.length_cons, List.length_nil, List.cons_append, List.nil_append, List.map_cons, List.map_nil, List.zip_cons_cons, List.zip_nil_left, List.zip_nil_right, List.foldl_cons, List.foldl_nil, szl, ite_true, ite_false, Nat.zero_add, Nat.reduceAdd, Nat.reduceSub, ↓reduceIte, and_self, and_true, true_and, Bool.not_true, Bool.not_false, Bool.not_not, Bool.false_eq_true, reduceCtorEq, gN, gT, gsNil, gsCons, hName, hTup, hsNil, hsCons, Option.bind_some, Option.map_some, partO, seqv_tup, seqv_fl, decide_true, decide_false, Nat.reduceLeDiff, f_mul (own := false) (show (0 : Int) ≤ 104729 by omega) (show (104729 : Int) < 2 ^ 63 by omega) h0 (show salt < 2 ^ 63 by omega)]; try rfl)) ?_
    refine sp_seq ?_
    rw [x_for, show iSeq (mVar 2) [some (.rl (ns.map .int)), some (.int salt), some (.fl ((ms.map ab).map .int)), some (.int (7919 + 104729 * salt)), none] [] = .ok ((ms.map ab).map .int, none) [] from rfl, toS_ok]
    refine sp_run (I := fun i e st => ∃ b x, e = [some (.rl (ns.map .int)), some (.int salt), some (.fl ((ms.map ab).map .int)), some (.int b), x] ∧ st = [] ∧ 0 ≤ b ∧ b < 2147483647) _ 0 ⟨_, _, rfl, rfl, by omega, by omega⟩ ?_ ?_
    · rintro j d e st _ hd ⟨b, x, rfl, rfl, hb0, hb1⟩
      obtain ⟨i, hi, rfl⟩ := List.mem_map.mp (List.mem_of_getElem? hd)
      refine ⟨_, rfl, ?_⟩
      refine sp_nx (e1 := [some (.rl (ns.map .int)), some (.int salt), some (.fl ((ms.map ab).map .int)), some (.int ((b * 48271 + i % 2147483549 + 11) % 2147483647)), some (.int i)]) (st1 := []) (by (simp only [bind_exc, toS_exc, seq_exc, seq_rt, x_var, x_c, x_bin, x_un, x_fn, x_bm, x_tst, x_notT, x_andT, x_orT, x_if, x_not, x_and, x_or, x_nil, x_cons, x_star, x_tup, x_lst, x_call, x_sl, x_oN, x_oS, x_lrg, x_trg, x_iseq, x_enum, x_zip, x_yes, x_mk, x_mt, x_fld, x_snil, x_set, x_ret, x_sif, x_drop, x_raise, x_asg, x_par, x_asgH, x_hsub, x_sfld, bind_ok, toS_ok, seq_nx, opt_ok, sel_0, sel_1, sel_2, sel_3, sel_nil, mkL_f, mkL_t, f_int, f_add, f_eqI, f_neI, f_abs, f_i1, f_max2, f_min2, f_neg, List.getElem?_cons_succ, List.getElem?_cons_zero, List.set_cons_succ, List.set_cons_zero, List.length_cons, List.length_nil, List.cons_append, List.nil_append, List.map_cons, List.map_nil, List.zip_cons_cons, List.zip_nil_left, List.zip_nil_right, List.foldl_cons, List.foldl_nil, szl, ite_true, ite_false, Nat.zero_add, Nat.reduceAdd, Nat.reduceSub, ↓reduceIte, and_self, and_true, true_and, Bool.not_true, Bool.not_false, Bool.not_not, Bool.false_eq_true, reduceCtorEq, gN, gT, gsNil, gsCons, hName, hTup, hsNil, hsCons, Option.bind_some, Option.map_some, partO, seqv_tup, seqv_fl, decide_true, decide_false, Nat.reduceLeDiff, f_mul (own := false) hb0 (show b < 2 ^ 63 by omega) (show (0 : Int) ≤ 48271 by omega) (show (48271 : Int) < 2 ^ 63 by omega), f_mod (show (0 : Int) < 2147483549 by omega), f_mod (show (0 : Int) < 2147483647 by omega)]; try rfl)) ?_
      exact ⟨_, _, rfl, rfl, Int.emod_nonneg _ (by omega), Int.emod_lt_of_pos _ (by omega)⟩
    · rintro e st ⟨b, x, rfl, rfl, hb0, hb1⟩
      let bg := (ms.map ab).filter fun i => decide (10 ^ 18 ≤ i)
      have hc : cRun (gN 4) (mTst (mBin fGe (mVar 4) (mBin fPow (mC (.int 10)) (mC (.int 18))))) (mVar 4) none [some (.rl (ns.map .int)), some (.int salt), some (.fl ((ms.map ab).map .int)), some (.int b), none] [] ((ms.map ab).map .int) [] = some (bg.map D.int, []) := by
        have := cRun_of (g := gN 4) (tt := mTst (mBin fGe (mVar 4) (mBin fPow (mC (.int 10)) (mC (.int 18))))) (te := mVar 4) (gd := none) (env := [some (.rl (ns.map .int)), some (.int salt), some (.fl ((ms.map ab).map .int)), some (.int b), none]) D.int (fun i => decide (10 ^ 18 ≤ i)) D.int (show grdOk none [] from trivial) (xs := ms.map ab) (acc := []) (fun i hi => ⟨_, rfl, ?_, fun _ => ?_⟩) (by rw [sizeV, List.length_map, List.length_nil]; omega)
        · exact this
        · have hp : fPow (.int 10) (.int 18) [] = .ok (.int (10 ^ 18)) [] := f_intC.trans (if_pos (show CPow 10 18 by unfold CPow; decide))
          (simp only [bind_exc, toS_exc, seq_exc, seq_rt, x_var, x_c, x_bin, x_un, x_fn, x_bm, x_tst, x_notT, x_andT, x_orT, x_if, x_not, x_and, x_or, x_nil, x_cons, x_star, x_tup, x_lst, x_call, x_sl, x_oN, x_oS, x_lrg, x_trg, x_iseq, x_enum, x_zip, x_yes, x_mk, x_mt, x_fld, x_snil, x_set, x_ret, x_sif, x_drop, x_raise, x_asg, x_par, x_asgH, x_hsub, x_sfld, bind_ok, toS_ok, seq_nx, opt_ok, sel_0, sel_1, sel_2, sel_3, sel_nil, mkL_f, mkL_t, f_int, f_add, f_eqI, f_neI, f_abs, f_i1, f_max2, f_min2, f_neg, List.getElem?_cons_succ, List.getElem?_cons_zero, List.set_cons_succ, List.set_cons_zero, List.length_cons, List.length_nil, List.cons_append, List.nil_append, List.map_cons, List.map_nil, List.zip_cons_cons, List.zip_nil_left, List.zip_nil_right, List.foldl_cons, List.foldl_nil, szl, ite_true, ite_false, Nat.zero_add, Nat.reduceAdd, Nat.reduceSub, ↓reduceIte, and_self, and_true, true_and, Bool.not_true, Bool.not_false, Bool.not_not, Bool.false_eq_true, reduceCtorEq, gN, gT, gsNil, gsCons, hName, hTup, hsNil, hsCons, Option.bind_some, Option.map_some, partO, seqv_tup, seqv_fl, decide_true, decide_false, Nat.reduceLeDiff, hp]; try rfl)
        · (simp only [bind_exc, toS_exc, seq_exc, seq_rt, x_var, x_c, x_bin, x_un, x_fn, x_bm, x_tst, x_notT, x_andT, x_orT, x_if, x_not, x_and, x_or, x_nil, x_cons, x_star, x_tup, x_lst, x_call, x_sl, x_oN, x_oS, x_lrg, x_trg, x_iseq, x_enum, x_zip, x_yes, x_mk, x_mt, x_fld, x_snil, x_set, x_ret, x_sif, x_drop, x_raise, x_asg, x_par, x_asgH, x_hsub, x_sfld, bind_ok, toS_ok, seq_nx, opt_ok, sel_0, sel_1, sel_2, sel_3, sel_nil, mkL_f, mkL_t, f_int, f_add, f_eqI, f_neI, f_abs, f_i1, f_max2, f_min2, f_neg, List.getElem?_cons_succ, List.getElem?_cons_zero, List.set_cons_succ, List.set_cons_zero, List.length_cons, List.length_nil, List.cons_append, List.nil_append, List.map_cons, List.map_nil, List.zip_cons_cons, List.zip_nil_left, List.zip_nil_right, List.foldl_cons, List.foldl_nil, szl, ite_true, ite_false, Nat.zero_add, Nat.reduceAdd, Nat.reduceSub, ↓reduceIte, and_self, and_true, true_and, Bool.not_true, Bool.not_false, Bool.not_not, Bool.false_eq_true, reduceCtorEq, gN, gT, gsNil, gsCons, hName, hTup, hsNil, hsCons, Option.bind_some, Option.map_some, partO, seqv_tup, seqv_fl, decide_true, decide_false, Nat.reduceLeDiff]; try rfl)
      refine sp_rt (d := .ref 1) (st1 := dl bg.reverse b []) (by
        (simp only [bind_exc, toS_exc, seq_exc, seq_rt, x_var, x_c, x_bin, x_un, x_fn, x_bm, x_tst, x_notT, x_andT, x_orT, x_if, x_not, x_and, x_or, x_nil, x_cons, x_star, x_tup, x_lst, x_call, x_sl, x_oN, x_oS, x_lrg, x_trg, x_iseq, x_enum, x_zip, x_yes, x_mk, x_mt, x_fld, x_snil, x_set, x_ret, x_sif, x_drop, x_raise, x_asg, x_par, x_asgH, x_hsub, x_sfld, bind_ok, toS_ok, seq_nx, opt_ok, sel_0, sel_1, sel_2, sel_3, sel_nil, mkL_f, mkL_t, f_int, f_add, f_eqI, f_neI, f_abs, f_i1, f_max2, f_min2, f_neg, List.getElem?_cons_succ, List.getElem?_cons_zero, List.set_cons_succ, List.set_cons_zero, List.length_cons, List.length_nil, List.cons_append, List.nil_append, List.map_cons, List.map_nil, List.zip_cons_cons, List.zip_nil_left, List.zip_nil_right, List.foldl_cons, List.foldl_nil, szl, ite_true, ite_false, Nat.zero_add, Nat.reduceAdd, Nat.reduceSub, ↓reduceIte, and_self, and_true, true_and, Bool.not_true, Bool.not_false, Bool.not_not, Bool.false_eq_true, reduceCtorEq, gN, gT, gsNil, gsCons, hName, hTup, hsNil, hsCons, Option.bind_some, Option.map_some, partO, seqv_tup, seqv_fl, decide_true, decide_false, Nat.reduceLeDiff, x_comp, walkD, wipeE, hc, fRev, lstv, lsts, ← List.map_reverse]; try rfl)) ?_
      refine ⟨_, _, gcD_keep (by decide), rfl, _, _, rfl, hb0, hb1, ?_⟩
      · rw [List.length_reverse]
        have := List.length_filter_le (fun i => decide (10 ^ 18 ≤ i)) (ms.map ab)
        rw [List.length_map] at this
        exact Nat.le_trans this (by omega)
  obtain ⟨r, st', h3, rfl, h4⟩ := z
  exact ⟨st', h3, h4⟩
end Mi

namespace Mi
open PySem L2 Dw
section
variable {st : Sto} {n : Nat} {l ys : List D} {x d : D} {i : Int}
theorem seqv_ref (h : st[n]? = some (.lst l)) : seqv st (.ref n) = some l := by
  unfold seqv lstv lsts
  simp only [h]
theorem ix_of (hx : seqv st x = some ys) (h : atI ys i = some d) : fIxA x (.int i) st = .ok d st := by
  cases x with
  | tup zs => cases hx; exact ix_tup h
  | fl zs => cases hx; exact ix_fl h
  | rl zs =>
    cases hx
    show (match atI ys i with
      | some d => Out.ok d st
      | none => .bad) = _
    rw [h]
  | ref n =>
    unfold seqv lstv lsts at hx
    cases q : st[n]? with
    | none => simp only [q] at hx; cases hx
    | some o =>
      simp only [q] at hx
      cases o with
      | lst zs => cases hx; exact ix_lst q h
      | _ => cases hx
  | _ => cases hx
theorem ix_nat {i : Nat} (hx : seqv st x = some ys) (h : ys[i]? = some d) : fIxA x (.int (i : Int)) st = .ok d st :=
  ix_of hx (by rw [atI_nat rfl (List.getElem?_eq_some_iff.mp h).1, h])
theorem ix_int (h0 : 0 ≤ i) (hx : seqv st x = some ys) (h : ys[i.toNat]? = some d) : fIxA x (.int i) st = .ok d st := by
  obtain ⟨k, rfl⟩ := Int.eq_ofNat_of_zero_le h0
  exact ix_nat hx h
theorem len_of (hx : seqv st x = some ys) : fLen [x] st = .ok (.int ys.length) st := by
  cases x with
  | str z => cases hx
  | _ => simp only [fLen, hx]
theorem isL_ref (h : st[n]? = some (.lst l)) : isL st (.ref n) = true := by
  unfold isL lstv lsts
  simp only [h, Option.isSome_some]
theorem app_of (h : st[n]? = some (.lst l)) (hl : l.length < sizeLine) : fAppend (.ref n) [x] st = .ok .non (st.set n (.lst (l ++ [x]))) := by
  unfold fAppend ourL
  simp only [h, if_pos hl]
theorem pop_of {k : Nat} (h : st[n]? = some (.lst l)) (hk : l[k]? = some x) (hl : k < 2 ^ 62) : fPop (.ref n) [.int (k : Int)] st = .ok x (st.set n (.lst (l.eraseIdx k))) := by
  have hk2 := (List.getElem?_eq_some_iff.mp hk).1
  have e : seqIndex? (k : Int) l.length = some k := seqIndex_of (k := (k : Int)) (by omega) (by omega)
  unfold fPop ourL
  simp only [h, e, hk]
  rw [if_pos (by omega)]
theorem tuple_of (hx : seqv st x = some ys) : fTuple [x] st = .ok (.tup ys) st := by
  simp only [fTuple, hx]
theorem list_own (hx : seqv st x = some ys) : fList true [x] st = .ok (.ref st.length) (st ++ [.lst ys]) := by
  simp only [fList, hx]; rfl
theorem list_fl (hx : seqv st x = some ys) : fList false [x] st = .ok (.fl ys) st := by
  simp only [fList, hx]; rfl
end
section
variable {rest st : Sto}
theorem of_ok {x : D} {ys : List D} (h : Dr rest st) (hx : ∀ st', Dr rest st' → seqv st' x = some ys) (hne : ys ≠ []) (hl : ys.length < 2 ^ 62) : ∃ d st', F__law_of [.ref 1, x] st = .ok d st' ∧ d ∈ ys ∧ Dr rest st' := by
  have hp := List.length_pos_iff.mpr hne
  obtain ⟨r, st1, h1, h2, h3, h4⟩ := any_ok h (show (0 : Int) < (ys.length : Int) by omega) (by omega)
  obtain ⟨k, rfl⟩ := Int.eq_ofNat_of_zero_le h2
  have hk : k < ys.length := by omega
  have z : ∃ d st', fnM 2 2 b__law_of [.ref 1, x] st = .ok d st' ∧ d ∈ ys ∧ Dr rest st' := by
    refine fn_of [some (.ref 1), some x] rfl rfl ?_
    unfold b__law_of
    refine sp_rt (d := ys[k]) (st1 := st1) (by (simp only [bind_exc, toS_exc, seq_exc, seq_rt, x_var, x_c, x_bin, x_un, x_fn, x_bm, x_tst, x_notT, x_andT, x_orT, x_if, x_not, x_and, x_or, x_nil, x_cons, x_star, x_tup, x_lst, x_call, x_sl, x_oN, x_oS, x_lrg, x_trg, x_iseq, x_enum, x_zip, x_yes, x_mk, x_mt, x_fld, x_snil, x_set, x_ret, x_sif, x_drop, x_raise, x_asg, x_par, x_asgH, x_hsub, x_sfld, bind_ok, toS_ok, seq_nx, opt_ok, sel_0, sel_1, sel_2, sel_3, sel_nil, mkL_f, mkL_t, f_int, f_add, f_eqI, f_neI, f_abs, f_i1, f_max2, f_min2, f_neg, List.getElem?_cons_succ, List.getElem?_cons_zero, List.set_cons_succ, List.set_cons_zero, List.length_cons, List.length_nil, List.cons_append, List.nil_append, List.map_cons, List.map_nil, List.zip_cons_cons, List.zip_nil_left, List.zip_nil_right, List.foldl_cons, List.foldl_nil, szl, ite_true, ite_false, Nat.zero_add, Nat.reduceAdd, Nat.reduceSub, ↓reduceIte, and_self, and_true, true_and, Bool.not_true, Bool.not_false, Bool.not_not, Bool.false_eq_true, reduceCtorEq, gN, gT, gsNil, gsCons, hName, hTup, hsNil, hsCons, Option.bind_some, Option.map_some, partO, seqv_tup, seqv_fl, decide_true, decide_false, Nat.reduceLeDiff, len_of (hx st h), h1, ix_nat (hx st1 h4) (List.getElem?_eq_getElem hk)]; try rfl)) ?_
    exact ⟨_, _, gcD_same (by rw [h4.len, h.len]), List.getElem_mem hk, h4⟩
  exact z
theorem at0 {l : List MO} {o : MO} {r : Sto} : (l ++ o :: r)[l.length]? = some o := by simp
theorem at1 {l : List MO} {o p : MO} {r : Sto} : (l ++ o :: p :: r)[l.length + 1]? = some p := by
  rw [List.getElem?_append_right (by omega)]
  simp
theorem Dr.at0 {o : MO} {r : Sto} (h : Dr (rest ++ o :: r) st) : st[rest.length + 2]? = some o := by rw [h.get]; exact Mi.at0
theorem Dr.at1 {o p : MO} {r : Sto} (h : Dr (rest ++ o :: p :: r) st) : st[rest.length + 1 + 2]? = some p := by rw [h.get]; exact Mi.at1
theorem Dr.set0 {o o' : MO} {r : Sto} (h : Dr (rest ++ o :: r) st) : Dr (rest ++ o' :: r) (st.set (rest.length + 2) o') := by
  have := h.set (n := rest.length) (o := o')
  rwa [List.set_append_right _ _ (by omega), Nat.sub_self, List.set_cons_zero] at this
theorem Dr.set1 {o p p' : MO} {r : Sto} (h : Dr (rest ++ o :: p :: r) st) : Dr (rest ++ o :: p' :: r) (st.set (rest.length + 1 + 2) p') := by
  have := h.set (n := rest.length + 1) (o := p')
  rw [List.set_append_right _ _ (by omega)] at this
  simpa using this
theorem era_perm {α : Type} : ∀ {l : List α} {k : Nat} (h : k < l.length), (l[k] :: l.eraseIdx k).Perm l
  | a :: r, 0, _ => List.Perm.refl _
  | a :: r, k + 1, h => by
    have := era_perm (l := r) (k := k) (by simpa using h)
    exact (List.Perm.swap a _ _).trans (this.cons a)
theorem mix_loop {x : D} {j : Nat} (hj : j ≤ 60) : ∀ (m : Nat) {l f : List D} {st : Sto}, l.length = m → (∀ d ∈ l, PD j d) → m + f.length < 2 ^ 20 → Dr (rest ++ [.lst l, .lst f]) st → ∃ f' st', sWhile (mTst (mBin (fEq true) (mVar 2) (mLst false aNil))) (sDrop (mBM fAppend (mVar 3) (aCons (mBM fPop (mVar 2) (aCons (mCall F__law_any 2 0 [0, 1] (aCons (mVar 0) (aCons (mFn fLen (aCons (mVar 2) aNil)) aNil)) aNil) aNil)) aNil))) [some (.ref 1), some x, some (.ref (rest.length + 2)), some (.ref (rest.length + 1 + 2))] st = .nx [some (.ref 1), some x, some (.ref (rest.length + 2)), some (.ref (rest.length + 1 + 2))] st' ∧ (f ++ l).Perm f' ∧ Dr (rest ++ [.lst [], .lst f']) st' := by
  intro m
  induction m with
  | zero =>
    intro l f st hl hp hz h
    have : l = [] := List.length_eq_zero_iff.mp hl
    subst this
    refine ⟨f, st, ?_, by rw [List.append_nil], h⟩
    rw [sWhile_eq]
    (simp only [bind_exc, toS_exc, seq_exc, seq_rt, x_var, x_c, x_bin, x_un, x_fn, x_bm, x_tst, x_notT, x_andT, x_orT, x_if, x_not, x_and, x_or, x_nil, x_cons, x_star, x_tup, x_lst, x_call, x_sl, x_oN, x_oS, x_lrg, x_trg, x_iseq, x_enum, x_zip, x_yes, x_mk, x_mt, x_fld, x_snil, x_set, x_ret, x_sif, x_drop, x_raise, x_asg, x_par, x_asgH, x_hsub, x_sfld, bind_ok, toS_ok, seq_nx, opt_ok, sel_0, sel_1, sel_2, sel_3, sel_nil, mkL_f, mkL_t, f_int, f_add, f_eqI, f_neI, f_abs, f_i1, f_max2, f_min2, f_neg, List.getElem?_cons_succ, List.getElem?_cons_zero, List.set_cons_succ, List.set_cons_zero, List.length_cons, List.length_nil, List.cons_append, List.nil_append, List.map_cons, List.map_nil, List.zip_cons_cons, List.zip_nil_left, List.zip_nil_right, List.foldl_cons, List.foldl_nil, szl, ite_true, ite_false, Nat.zero_add, Nat.reduceAdd, Nat.reduceSub, ↓reduceIte, and_self, and_true, true_and, Bool.not_true, Bool.not_false, Bool.not_not, Bool.false_eq_true, reduceCtorEq, gN, gT, gsNil, gsCons, hName, hTup, hsNil, hsCons, Option.bind_some, Option.map_some, partO, seqv_tup, seqv_fl, decide_true, decide_false, Nat.reduceLeDiff, ne_nil h.at0 hp hj, decide_eq_false (show ¬ (([] : List D) ≠ []) by simp)]; try rfl)
  | succ m ih =>
    intro l f st hl hp hz h
    have hn : l ≠ [] := by intro z; rw [z] at hl; cases hl
    obtain ⟨r, st1, h1, h2, h3, h4⟩ := any_ok h (show (0 : Int) < (l.length : Int) by omega) (by omega)
    obtain ⟨k, rfl⟩ := Int.eq_ofNat_of_zero_le h2
    have hk : k < l.length := by omega
    have h5 := h4.set0 (o' := .lst (l.eraseIdx k))
    have h6 := h5.set1 (p' := .lst (f ++ [l[k]]))
    obtain ⟨f', st', g1, g2, g3⟩ := ih (by rw [List.length_eraseIdx]; rw [if_pos hk]; omega) (fun d hd => hp d (List.mem_of_mem_eraseIdx hd)) (by rw [List.length_append, List.length_singleton]; omega) h6
    refine ⟨f', st', ?_, ?_, g3⟩
    · rw [sWhile_eq]
      (simp only [bind_exc, toS_exc, seq_exc, seq_rt, x_var, x_c, x_bin, x_un, x_fn, x_bm, x_tst, x_notT, x_andT, x_orT, x_if, x_not, x_and, x_or, x_nil, x_cons, x_star, x_tup, x_lst, x_call, x_sl, x_oN, x_oS, x_lrg, x_trg, x_iseq, x_enum, x_zip, x_yes, x_mk, x_mt, x_fld, x_snil, x_set, x_ret, x_sif, x_drop, x_raise, x_asg, x_par, x_asgH, x_hsub, x_sfld, bind_ok, toS_ok, seq_nx, opt_ok, sel_0, sel_1, sel_2, sel_3, sel_nil, mkL_f, mkL_t, f_int, f_add, f_eqI, f_neI, f_abs, f_i1, f_max2, f_min2, f_neg, List.getElem?_cons_succ, List.getElem?_cons_zero, List.set_cons_succ, List.set_cons_zero, List.length_cons, List.length_nil, List.cons_append, List.nil_append, List.map_cons, List.map_nil, List.zip_cons_cons, List.zip_nil_left, List.zip_nil_right, List.foldl_cons, List.foldl_nil, szl, ite_true, ite_false, Nat.zero_add, Nat.reduceAdd, Nat.reduceSub, ↓reduceIte, and_self, and_true, true_and, Bool.not_true, Bool.not_false, Bool.not_not, Bool.false_eq_true, reduceCtorEq, gN, gT, gsNil, gsCons, hName, hTup, hsNil, hsCons, Option.bind_some, Option.map_some, partO, seqv_tup, seqv_fl, decide_true, decide_false, Nat.reduceLeDiff, ne_nil h.at0 hp hj, decide_eq_true hn, isL_ref h.at1, isL_ref h.at0, len_of (seqv_ref h.at0), h1, pop_of h4.at0 (List.getElem?_eq_getElem hk) (by omega), app_of (x := l[k]) h5.at1 (by rw [sizeV]; omega)]; try rfl)
      exact g1
    · refine List.Perm.trans ?_ g2
      rw [List.append_assoc]
      refine List.Perm.append_left f ?_
      exact (era_perm hk).symm
theorem mixed_ok {x : D} {xs : List D} {j : Nat} (h : Dr rest st) (hx : seqv st x = some xs) (hp : ∀ d ∈ xs, PD j d) (hj : j ≤ 60) (hl : xs.length < 2 ^ 20) : ∃ ys st', F__law_mixed [.ref 1, x] st = .ok (.ref (rest.length + 3)) st' ∧ xs.Perm ys ∧ Dr (rest ++ [.lst [], .lst ys]) st' := by
  have z : ∃ d st', fnM 4 2 b__law_mixed [.ref 1, x] st = .ok d st' ∧ d = .ref (rest.length + 3) ∧ ∃ ys, xs.Perm ys ∧ Dr (rest ++ [.lst [], .lst ys]) st' := by
    refine fn_of [some (.ref 1), some x, none, none] rfl rfl ?_
    unfold b__law_mixed
    have h2 := h.app [.lst xs, .lst []]
    obtain ⟨f', st', g1, g2, g3⟩ := mix_loop (x := x) hj xs.length rfl hp (by simp; omega) h2
    refine sp_step (e1 := [some (.ref 1), some x, some (.ref (rest.length + 2)), some (.ref (rest.length + 1 + 2))]) (st1 := st ++ [.lst xs, .lst []]) (by
      (simp only [bind_exc, toS_exc, seq_exc, seq_rt, x_var, x_c, x_bin, x_un, x_fn, x_bm, x_tst, x_notT, x_andT, x_orT, x_if, x_not, x_and, x_or, x_nil, x_cons, x_star, x_tup, x_lst, x_call, x_sl, x_oN, x_oS, x_lrg, x_trg, x_iseq, x_enum, x_zip, x_yes, x_mk, x_mt, x_fld, x_snil, x_set, x_ret, x_sif, x_drop, x_raise, x_asg, x_par, x_asgH, x_hsub, x_sfld, bind_ok, toS_ok, seq_nx, opt_ok, sel_0, sel_1, sel_2, sel_3, sel_nil, mkL_f, mkL_t, f_int, f_add, f_eqI, f_neI, f_abs, f_i1, f_max2, f_min2, f_neg, List.getElem?_cons_succ, List.getElem?_cons_zero, List.set_cons_succ, List.set_cons_zero, List.length_cons, List.length_nil, List.cons_append, List.nil_append, List.map_cons, List.map_nil, List.zip_cons_cons, List.zip_nil_left, List.zip_nil_right, List.foldl_cons, List.foldl_nil, szl, ite_true, ite_false, Nat.zero_add, Nat.reduceAdd, Nat.reduceSub, ↓reduceIte, and_self, and_true, true_and, Bool.not_true, Bool.not_false, Bool.not_not, Bool.false_eq_true, reduceCtorEq, gN, gT, gsNil, gsCons, hName, hTup, hsNil, hsCons, Option.bind_some, Option.map_some, partO, seqv_tup, seqv_fl, decide_true, decide_false, Nat.reduceLeDiff, list_own hx, h.len, List.length_append, List.length_singleton, List.append_assoc]; try rfl)) ?_
    refine sp_step g1 ?_
    refine sp_rt (d := .ref (rest.length + 3)) (st1 := st') (by (simp only [bind_exc, toS_exc, seq_exc, seq_rt, x_var, x_c, x_bin, x_un, x_fn, x_bm, x_tst, x_notT, x_andT, x_orT, x_if, x_not, x_and, x_or, x_nil, x_cons, x_star, x_tup, x_lst, x_call, x_sl, x_oN, x_oS, x_lrg, x_trg, x_iseq, x_enum, x_zip, x_yes, x_mk, x_mt, x_fld, x_snil, x_set, x_ret, x_sif, x_drop, x_raise, x_asg, x_par, x_asgH, x_hsub, x_sfld, bind_ok, toS_ok, seq_nx, opt_ok, sel_0, sel_1, sel_2, sel_3, sel_nil, mkL_f, mkL_t, f_int, f_add, f_eqI, f_neI, f_abs, f_i1, f_max2, f_min2, f_neg, List.getElem?_cons_succ, List.getElem?_cons_zero, List.set_cons_succ, List.set_cons_zero, List.length_cons, List.length_nil, List.cons_append, List.nil_append, List.map_cons, List.map_nil, List.zip_cons_cons, List.zip_nil_left, List.zip_nil_right, List.foldl_cons, List.foldl_nil, szl, ite_true, ite_false, Nat.zero_add, Nat.reduceAdd, Nat.reduceSub, ↓reduceIte, and_self, and_true, true_and, Bool.not_true, Bool.not_false, Bool.not_not, Bool.false_eq_true, reduceCtorEq, gN, gT, gsNil, gsCons, hName, hTup, hsNil, hsCons, Option.bind_some, Option.map_some, partO, seqv_tup, seqv_fl, decide_true, decide_false, Nat.reduceLeDiff]; try rfl)) ?_
    refine ⟨_, _, gcD_keep (by rw [h.len]; simp only [noRef, decide_eq_false_iff_not]; omega), rfl, f', ?_, g3⟩
    simpa using g2
  obtain ⟨d, st', h1, rfl, ys, h2, h3⟩ := z
  exact ⟨ys, st', h1, h2, h3⟩
end
end Mi

namespace Mi
open PySem L2 Dw
theorem ints_of {P : Int → Prop} : ∀ {ys : List D}, (∀ y ∈ ys, ∃ i, y = .int i ∧ P i) → ∃ cs : List Int, ys = cs.map .int ∧ ∀ i ∈ cs, P i
  | [], _ => ⟨[], rfl, fun _ h => by cases h⟩
  | y :: ys, h => by
    obtain ⟨i, rfl, hi⟩ := h y List.mem_cons_self
    obtain ⟨cs, rfl, hc⟩ := ints_of fun z hz => h z (List.mem_cons_of_mem _ hz)
    exact ⟨i :: cs, rfl, fun j hj => by
      rcases List.mem_cons.mp hj with rfl | hj
      · exact hi
      · exact hc j hj⟩
/-- a column: a list of the law's, or one of the deal's -/
def Col (R : Sto) (k : Nat) (d : D) (cs : List Int) : Prop := d = .fl (cs.map .int) ∨ ∃ n, k ≤ n ∧ d = .ref (n + 2) ∧ R[n]? = some (.lst (cs.map .int))
theorem Col.seqv {R st : Sto} {k : Nat} {d : D} {cs : List Int} (h : Col R k d cs) (hd : Dr R st) : seqv st d = some (cs.map .int) := by
  rcases h with rfl | ⟨n, _, rfl, hn⟩
  · rfl
  · exact seqv_ref (by rw [hd.get]; exact hn)
theorem Col.app {R l : Sto} {k : Nat} {d : D} {cs : List Int} (h : Col R k d cs) : Col (R ++ l) k d cs := by
  rcases h with rfl | ⟨n, hk, rfl, hn⟩
  · exact .inl rfl
  · exact .inr ⟨n, hk, rfl, by rw [List.getElem?_append_left (List.getElem?_eq_some_iff.mp hn).1]; exact hn⟩
theorem Col.le {R : Sto} {j k : Nat} {d : D} {cs : List Int} (h : Col R k d cs) (hj : j ≤ k) : Col R j d cs := by
  rcases h with rfl | ⟨n, hk, rfl, hn⟩
  · exact .inl rfl
  · exact .inr ⟨n, by omega, rfl, hn⟩
theorem rg1_of {j : Int} {c : EM} {e : En} {st st1 : Sto} (h : c e st = .ok (.int j) st1) (h0 : 0 ≤ j) (h1 : j < 2 ^ 62) : iRg1 c e st = .ok ((List.range j.toNat).map (fun i => D.int (0 + (i : Nat))), none) st1 := by
  rw [x_rg1, h, bind_ok]
  exact if_pos ⟨by omega, h1⟩
/-- [f(i) for i in range(n)], f of no effect -/
theorem comp_rg {c : EM} {te : EM} {e : En} {st : Sto} {v : Nat} {n : Nat} (f : Nat → Int) (h : c e st = .ok (.int n) st) (hn : n < 2 ^ 20) (ht : ∀ i : Nat, i < n → te ((wipeE e [v]).set v (some (.int i))) st = .ok (.int (f i)) st) :
    mComp false (iRg1 c) (gN v) [v] tYesM te e st = .ok (.fl (((List.range n).map f).map .int)) st := by
  have hc := cRun_all (g := gN v) (te := te) (gd := none) (env := wipeE e [v]) (st := st) (fun i : Nat => D.int (0 + (i : Nat))) (fun i => .int (f i)) (show grdOk none st from trivial) (xs := List.range n) (fun i hi => ⟨_, rfl, by
    have := ht i (by simpa using hi)
    rwa [Int.zero_add]⟩) (by rw [List.length_range, sizeV]; omega)
  rw [x_comp, rg1_of h (by omega) (by omega), bind_ok, Int.toNat_natCast]
  show (match cRun (gN v) tYesM te none (wipeE e [v]) [] _ st with
    | some (acc, st2) => mkL false acc st2
    | none => .bad) = _
  rw [hc]
  show mkL false _ st = _
  rw [mkL_f, List.map_map]
  rfl
theorem col_rg {R : Sto} {k n : Nat} {f : Nat → Int} (h : ∀ i < n, 0 ≤ f i ∧ f i < n) : ∃ cs, Col R k (.fl (((List.range n).map f).map .int)) cs ∧ cs.length = n ∧ ∀ i ∈ cs, 0 ≤ i ∧ i < n :=
  ⟨_, .inl rfl, by simp, fun i hi => by
    obtain ⟨j, hj, rfl⟩ := List.mem_map.mp hi
    exact h j (by simpa using hj)⟩
theorem mul_fl {xs : List D} {st : Sto} {k : Int} (h0 : 0 ≤ k) (h1 : k < 2 ^ 62) (h2 : xs.length * k.toNat ≤ sizeLine) : fMul false (.fl xs) (.int k) st = .ok (.fl (List.replicate k.toNat xs).flatten) st := by
  show (if -(2 ^ 63) ≤ k ∧ k < 2 ^ 63 ∧ xs.length * k.toNat ≤ sizeLine then mkL false (List.replicate k.toNat xs).flatten st else .bad) = _
  rw [if_pos ⟨by omega, by omega, h2⟩]; rfl
theorem rep_flat {n : Nat} {to : Int} : (List.replicate n [D.int to]).flatten = ((List.range n).map fun _ => to).map .int := by
  induction n with
  | zero => rfl
  | succ n ih =>
    rw [List.replicate_succ, List.flatten_cons, ih, List.range_succ_eq_map, List.map_cons, List.map_cons, List.map_map, List.map_map, List.map_map]
    rfl
section
variable {rest st : Sto}
theorem column_ok {form : Int} {n : Nat} (h : Dr rest st) (h0 : 0 < n) (h1 : n < 2 ^ 19) : ∃ d cs junk st', F__law_column [.ref 1, .int form, .int n] st = .ok d st' ∧ Dr (rest ++ junk) st' ∧ Col (rest ++ junk) rest.length d cs ∧ cs.length = n ∧ ∀ i ∈ cs, 0 ≤ i ∧ i < n := by
  obtain ⟨to, st1, g1, g2, g3, g4⟩ := any_ok h (show (0 : Int) < (n : Int) by omega) (by omega)
  have z : ∃ d st', fnM 6 3 b__law_column [.ref 1, .int form, .int n] st = .ok d st' ∧ ∃ cs junk, Dr (rest ++ junk) st' ∧ Col (rest ++ junk) rest.length d cs ∧ cs.length = n ∧ ∀ i ∈ cs, 0 ≤ i ∧ i < n := by
    refine fn_of [some (.ref 1), some (.int form), some (.int n), none, none, none] rfl rfl ?_
    unfold b__law_column
    refine sp_step (e1 := [some (.ref 1), some (.int form), some (.int n), some (.int to), none, none]) (st1 := st1) (by (simp only [bind_exc, toS_exc, seq_exc, seq_rt, x_var, x_c, x_bin, x_un, x_fn, x_bm, x_tst, x_notT, x_andT, x_orT, x_if, x_not, x_and, x_or, x_nil, x_cons, x_star, x_tup, x_lst, x_call, x_sl, x_oN, x_oS, x_lrg, x_trg, x_iseq, x_enum, x_zip, x_yes, x_mk, x_mt, x_fld, x_snil, x_set, x_ret, x_sif, x_drop, x_raise, x_asg, x_par, x_asgH, x_hsub, x_sfld, bind_ok, toS_ok, seq_nx, opt_ok, sel_0, sel_1, sel_2, sel_3, sel_nil, mkL_f, mkL_t, f_int, f_add, f_eqI, f_neI, f_abs, f_i1, f_max2, f_min2, f_neg, List.getElem?_cons_succ, List.getElem?_cons_zero, List.set_cons_succ, List.set_cons_zero, List.length_cons, List.length_nil, List.cons_append, List.nil_append, List.map_cons, List.map_nil, List.zip_cons_cons, List.zip_nil_left, List.zip_nil_right, List.foldl_cons, List.foldl_nil, szl, ite_true, ite_false, Nat.zero_add, Nat.reduceAdd, Nat.reduceSub, ↓reduceIte, and_self, and_true, true_and, Bool.not_true, Bool.not_false, Bool.not_not, Bool.false_eq_true, reduceCtorEq, gN, gT, gsNil, gsCons, hName, hTup, hsNil, hsCons, Option.bind_some, Option.map_some, partO, seqv_tup, seqv_fl, decide_true, decide_false, Nat.reduceLeDiff, g1]; try rfl)) ?_
    have fin : ∀ f : Nat → Int, (∀ i < n, 0 ≤ f i ∧ f i < n) → ∃ d' st'', gcD st.length (.fl (((List.range n).map f).map .int)) st1 = .ok d' st'' ∧ ∃ cs junk, Dr (rest ++ junk) st'' ∧ Col (rest ++ junk) rest.length d' cs ∧ cs.length = n ∧ ∀ i ∈ cs, 0 ≤ i ∧ i < n := fun f hf => by
      obtain ⟨cs, k1, k2, k3⟩ := col_rg (R := rest) (k := rest.length) hf
      exact ⟨_, _, gcD_same (by rw [g4.len, h.len]), cs, [], by rwa [List.append_nil], by rwa [List.append_nil], k2, k3⟩
    have hrg : iRg1 (mVar 2) [some (.ref 1), some (.int form), some (.int n), some (.int to), none, none] st1 = .ok ((List.range n).map (fun i => D.int (0 + (i : Nat))), none) st1 := rg1_of (j := (n : Int)) rfl (by omega) (by omega)
    by_cases f0 : form = 0
    · refine sp_leave (st1 := st1) (by (simp only [bind_exc, toS_exc, seq_exc, seq_rt, x_var, x_c, x_bin, x_un, x_fn, x_bm, x_tst, x_notT, x_andT, x_orT, x_if, x_not, x_and, x_or, x_nil, x_cons, x_star, x_tup, x_lst, x_call, x_sl, x_oN, x_oS, x_lrg, x_trg, x_iseq, x_enum, x_zip, x_yes, x_mk, x_mt, x_fld, x_snil, x_set, x_ret, x_sif, x_drop, x_raise, x_asg, x_par, x_asgH, x_hsub, x_sfld, bind_ok, toS_ok, seq_nx, opt_ok, sel_0, sel_1, sel_2, sel_3, sel_nil, mkL_f, mkL_t, f_int, f_add, f_eqI, f_neI, f_abs, f_i1, f_max2, f_min2, f_neg, List.getElem?_cons_succ, List.getElem?_cons_zero, List.set_cons_succ, List.set_cons_zero, List.length_cons, List.length_nil, List.cons_append, List.nil_append, List.map_cons, List.map_nil, List.zip_cons_cons, List.zip_nil_left, List.zip_nil_right, List.foldl_cons, List.foldl_nil, szl, ite_true, ite_false, Nat.zero_add, Nat.reduceAdd, Nat.reduceSub, ↓reduceIte, and_self, and_true, true_and, Bool.not_true, Bool.not_false, Bool.not_not, Bool.false_eq_true, reduceCtorEq, gN, gT, gsNil, gsCons, hName, hTup, hsNil, hsCons, Option.bind_some, Option.map_some, partO, seqv_tup, seqv_fl, decide_true, decide_false, Nat.reduceLeDiff, decide_eq_true f0]; try rfl)) ?_
      refine sp_ret ((comp_rg (n := n) (fun i => (i + to) % n) (by (simp only [bind_exc, toS_exc, seq_exc, seq_rt, x_var, x_c, x_bin, x_un, x_fn, x_bm, x_tst, x_notT, x_andT, x_orT, x_if, x_not, x_and, x_or, x_nil, x_cons, x_star, x_tup, x_lst, x_call, x_sl, x_oN, x_oS, x_lrg, x_trg, x_iseq, x_enum, x_zip, x_yes, x_mk, x_mt, x_fld, x_snil, x_set, x_ret, x_sif, x_drop, x_raise, x_asg, x_par, x_asgH, x_hsub, x_sfld, bind_ok, toS_ok, seq_nx, opt_ok, sel_0, sel_1, sel_2, sel_3, sel_nil, mkL_f, mkL_t, f_int, f_add, f_eqI, f_neI, f_abs, f_i1, f_max2, f_min2, f_neg, List.getElem?_cons_succ, List.getElem?_cons_zero, List.set_cons_succ, List.set_cons_zero, List.length_cons, List.length_nil, List.cons_append, List.nil_append, List.map_cons, List.map_nil, List.zip_cons_cons, List.zip_nil_left, List.zip_nil_right, List.foldl_cons, List.foldl_nil, szl, ite_true, ite_false, Nat.zero_add, Nat.reduceAdd, Nat.reduceSub, ↓reduceIte, and_self, and_true, true_and, Bool.not_true, Bool.not_false, Bool.not_not, Bool.false_eq_true, reduceCtorEq, gN, gT, gsNil, gsCons, hName, hTup, hsNil, hsCons, Option.bind_some, Option.map_some, partO, seqv_tup, seqv_fl, decide_true, decide_false, Nat.reduceLeDiff]; try rfl)) (by omega) (fun i hi => by (simp only [bind_exc, toS_exc, seq_exc, seq_rt, x_var, x_c, x_bin, x_un, x_fn, x_bm, x_tst, x_notT, x_andT, x_orT, x_if, x_not, x_and, x_or, x_nil, x_cons, x_star, x_tup, x_lst, x_call, x_sl, x_oN, x_oS, x_lrg, x_trg, x_iseq, x_enum, x_zip, x_yes, x_mk, x_mt, x_fld, x_snil, x_set, x_ret, x_sif, x_drop, x_raise, x_asg, x_par, x_asgH, x_hsub, x_sfld, bind_ok, toS_ok, seq_nx, opt_ok, sel_0, sel_1, sel_2, sel_3, sel_nil, mkL_f, mkL_t, f_int, f_add, f_eqI, f_neI, f_abs, f_i1, f_max2, f_min2, f_neg, List.getElem?_cons_succ, List.getElem?_cons_zero, List.set_cons_succ, List.set_cons_zero, List.length_cons, List.length_nil, List.cons_append, List.nil_append, List.map_cons, List.map_nil, List.zip_cons_cons, List.zip_nil_left, List.zip_nil_right, List.foldl_cons, List.foldl_nil, szl, ite_true, ite_false, Nat.zero_add, Nat.reduceAdd, Nat.reduceSub, ↓reduceIte, and_self, and_true, true_and, Bool.not_true, Bool.not_false, Bool.not_not, Bool.false_eq_true, reduceCtorEq, gN, gT, gsNil, gsCons, hName, hTup, hsNil, hsCons, Option.bind_some, Option.map_some, partO, seqv_tup, seqv_fl, decide_true, decide_false, Nat.reduceLeDiff, f_mod (show (0 : Int) < n by omega), wipeE]; try rfl)))) (fin _ fun i hi => ⟨Int.emod_nonneg _ (by omega), Int.emod_lt_of_pos _ (by omega)⟩)
    refine sp_skip (st1 := st1) (by (simp only [bind_exc, toS_exc, seq_exc, seq_rt, x_var, x_c, x_bin, x_un, x_fn, x_bm, x_tst, x_notT, x_andT, x_orT, x_if, x_not, x_and, x_or, x_nil, x_cons, x_star, x_tup, x_lst, x_call, x_sl, x_oN, x_oS, x_lrg, x_trg, x_iseq, x_enum, x_zip, x_yes, x_mk, x_mt, x_fld, x_snil, x_set, x_ret, x_sif, x_drop, x_raise, x_asg, x_par, x_asgH, x_hsub, x_sfld, bind_ok, toS_ok, seq_nx, opt_ok, sel_0, sel_1, sel_2, sel_3, sel_nil, mkL_f, mkL_t, f_int, f_add, f_eqI, f_neI, f_abs, f_i1, f_max2, f_min2, f_neg, List.getElem?_cons_succ, List.getElem?_cons_zero, List.set_cons_succ, List.set_cons_zero, List.length_cons, List.length_nil, List.cons_append, List.nil_append, List.map_cons, List.map_nil, List.zip_cons_cons, List.zip_nil_left, List.zip_nil_right, List.foldl_cons, List.foldl_nil, szl, ite_true, ite_false, Nat.zero_add, Nat.reduceAdd, Nat.reduceSub, ↓reduceIte, and_self, and_true, true_and, Bool.not_true, Bool.not_false, Bool.not_not, Bool.false_eq_true, reduceCtorEq, gN, gT, gsNil, gsCons, hName, hTup, hsNil, hsCons, Option.bind_some, Option.map_some, partO, seqv_tup, seqv_fl, decide_true, decide_false, Nat.reduceLeDiff, decide_eq_false f0]; try rfl)) ?_
    by_cases f1 : form = 1
    · refine sp_leave (st1 := st1) (by (simp only [bind_exc, toS_exc, seq_exc, seq_rt, x_var, x_c, x_bin, x_un, x_fn, x_bm, x_tst, x_notT, x_andT, x_orT, x_if, x_not, x_and, x_or, x_nil, x_cons, x_star, x_tup, x_lst, x_call, x_sl, x_oN, x_oS, x_lrg, x_trg, x_iseq, x_enum, x_zip, x_yes, x_mk, x_mt, x_fld, x_snil, x_set, x_ret, x_sif, x_drop, x_raise, x_asg, x_par, x_asgH, x_hsub, x_sfld, bind_ok, toS_ok, seq_nx, opt_ok, sel_0, sel_1, sel_2, sel_3, sel_nil, mkL_f, mkL_t, f_int, f_add, f_eqI, f_neI, f_abs, f_i1, f_max2, f_min2, f_neg, List.getElem?_cons_succ, List.getElem?_cons_zero, List.set_cons_succ, List.set_cons_zero, List.length_cons, List.length_nil, List.cons_append, List.nil_append, List.map_cons, List.map_nil, List.zip_cons_cons, List.zip_nil_left, List.zip_nil_right, List.foldl_cons, List.foldl_nil, szl, ite_true, ite_false, Nat.zero_add, Nat.reduceAdd, Nat.reduceSub, ↓reduceIte, and_self, and_true, true_and, Bool.not_true, Bool.not_false, Bool.not_not, Bool.false_eq_true, reduceCtorEq, gN, gT, gsNil, gsCons, hName, hTup, hsNil, hsCons, Option.bind_some, Option.map_some, partO, seqv_tup, seqv_fl, decide_true, decide_false, Nat.reduceLeDiff, decide_eq_true f1]; try rfl)) ?_
      refine sp_ret (d := .fl (((List.range n).map fun _ => to).map .int)) (st1 := st1) ?_ (fin _ fun i hi => ⟨by omega, by omega⟩)
      have := mul_fl (xs := [.int to]) (st := st1) (k := (n : Int)) (by omega) (by omega) (by simp only [List.length_singleton, sizeV]; omega)
      (simp only [bind_exc, toS_exc, seq_exc, seq_rt, x_var, x_c, x_bin, x_un, x_fn, x_bm, x_tst, x_notT, x_andT, x_orT, x_if, x_not, x_and, x_or, x_nil, x_cons, x_star, x_tup, x_lst, x_call, x_sl, x_oN, x_oS, x_lrg, x_trg, x_iseq, x_enum, x_zip, x_yes, x_mk, x_mt, x_fld, x_snil, x_set, x_ret, x_sif, x_drop, x_raise, x_asg, x_par, x_asgH, x_hsub, x_sfld, bind_ok, toS_ok, seq_nx, opt_ok, sel_0, sel_1, sel_2, sel_3, sel_nil, mkL_f, mkL_t, f_int, f_add, f_eqI, f_neI, f_abs, f_i1, f_max2, f_min2, f_neg, List.getElem?_cons_succ, List.getElem?_cons_zero, List.set_cons_succ, List.set_cons_zero, List.length_cons, List.length_nil, List.cons_append, List.nil_append, List.map_cons, List.map_nil, List.zip_cons_cons, List.zip_nil_left, List.zip_nil_right, List.foldl_cons, List.foldl_nil, szl, ite_true, ite_false, Nat.zero_add, Nat.reduceAdd, Nat.reduceSub, ↓reduceIte, and_self, and_true, true_and, Bool.not_true, Bool.not_false, Bool.not_not, Bool.false_eq_true, reduceCtorEq, gN, gT, gsNil, gsCons, hName, hTup, hsNil, hsCons, Option.bind_some, Option.map_some, partO, seqv_tup, seqv_fl, decide_true, decide_false, Nat.reduceLeDiff, this, Int.toNat_natCast, rep_flat]; try rfl)
    refine sp_skip (st1 := st1) (by (simp only [bind_exc, toS_exc, seq_exc, seq_rt, x_var, x_c, x_bin, x_un, x_fn, x_bm, x_tst, x_notT, x_andT, x_orT, x_if, x_not, x_and, x_or, x_nil, x_cons, x_star, x_tup, x_lst, x_call, x_sl, x_oN, x_oS, x_lrg, x_trg, x_iseq, x_enum, x_zip, x_yes, x_mk, x_mt, x_fld, x_snil, x_set, x_ret, x_sif, x_drop, x_raise, x_asg, x_par, x_asgH, x_hsub, x_sfld, bind_ok, toS_ok, seq_nx, opt_ok, sel_0, sel_1, sel_2, sel_3, sel_nil, mkL_f, mkL_t, f_int, f_add, f_eqI, f_neI, f_abs, f_i1, f_max2, f_min2, f_neg, List.getElem?_cons_succ, List.getElem?_cons_zero, List.set_cons_succ, List.set_cons_zero, List.length_cons, List.length_nil, List.cons_append, List.nil_append, List.map_cons, List.map_nil, List.zip_cons_cons, List.zip_nil_left, List.zip_nil_right, List.foldl_cons, List.foldl_nil, szl, ite_true, ite_false, Nat.zero_add, Nat.reduceAdd, Nat.reduceSub, ↓reduceIte, and_self, and_true, true_and, Bool.not_true, Bool.not_false, Bool.not_not, Bool.false_eq_true, reduceCtorEq, gN, gT, gsNil, gsCons, hName, hTup, hsNil, hsCons, Option.bind_some, Option.map_some, partO, seqv_tup, seqv_fl, decide_true, decide_false, Nat.reduceLeDiff, decide_eq_false f1]; try rfl)) ?_
    by_cases f2 : form = 2
    · refine sp_leave (st1 := st1) (by (simp only [bind_exc, toS_exc, seq_exc, seq_rt, x_var, x_c, x_bin, x_un, x_fn, x_bm, x_tst, x_notT, x_andT, x_orT, x_if, x_not, x_and, x_or, x_nil, x_cons, x_star, x_tup, x_lst, x_call, x_sl, x_oN, x_oS, x_lrg, x_trg, x_iseq, x_enum, x_zip, x_yes, x_mk, x_mt, x_fld, x_snil, x_set, x_ret, x_sif, x_drop, x_raise, x_asg, x_par, x_asgH, x_hsub, x_sfld, bind_ok, toS_ok, seq_nx, opt_ok, sel_0, sel_1, sel_2, sel_3, sel_nil, mkL_f, mkL_t, f_int, f_add, f_eqI, f_neI, f_abs, f_i1, f_max2, f_min2, f_neg, List.getElem?_cons_succ, List.getElem?_cons_zero, List.set_cons_succ, List.set_cons_zero, List.length_cons, List.length_nil, List.cons_append, List.nil_append, List.map_cons, List.map_nil, List.zip_cons_cons, List.zip_nil_left, List.zip_nil_right, List.foldl_cons, List.foldl_nil, szl, ite_true, ite_false, Nat.zero_add, Nat.reduceAdd, Nat.reduceSub, ↓reduceIte, and_self, and_true, true_and, Bool.not_true, Bool.not_false, Bool.not_not, Bool.false_eq_true, reduceCtorEq, gN, gT, gsNil, gsCons, hName, hTup, hsNil, hsCons, Option.bind_some, Option.map_some, partO, seqv_tup, seqv_fl, decide_true, decide_false, Nat.reduceLeDiff, decide_eq_true f2]; try rfl)) ?_
      refine sp_ret ((comp_rg (n := n) (fun i => if i = 0 then to else i) (by (simp only [bind_exc, toS_exc, seq_exc, seq_rt, x_var, x_c, x_bin, x_un, x_fn, x_bm, x_tst, x_notT, x_andT, x_orT, x_if, x_not, x_and, x_or, x_nil, x_cons, x_star, x_tup, x_lst, x_call, x_sl, x_oN, x_oS, x_lrg, x_trg, x_iseq, x_enum, x_zip, x_yes, x_mk, x_mt, x_fld, x_snil, x_set, x_ret, x_sif, x_drop, x_raise, x_asg, x_par, x_asgH, x_hsub, x_sfld, bind_ok, toS_ok, seq_nx, opt_ok, sel_0, sel_1, sel_2, sel_3, sel_nil, mkL_f, mkL_t, f_int, f_add, f_eqI, f_neI, f_abs, f_i1, f_max2, f_min2, f_neg, List.getElem?_cons_succ, List.getElem?_cons_zero, List.set_cons_succ, List.set_cons_zero, List.length_cons, List.length_nil, List.cons_append, List.nil_append, List.map_cons, List.map_nil, List.zip_cons_cons, List.zip_nil_left, List.zip_nil_right, List.foldl_cons, List.foldl_nil, szl, ite_true, ite_false, Nat.zero_add, Nat.reduceAdd, Nat.reduceSub, ↓reduceIte, and_self, and_true, true_and, Bool.not_true, Bool.not_false, Bool.not_not, Bool.false_eq_true, reduceCtorEq, gN, gT, gsNil, gsCons, hName, hTup, hsNil, hsCons, Option.bind_some, Option.map_some, partO, seqv_tup, seqv_fl, decide_true, decide_false, Nat.reduceLeDiff]; try rfl)) (by omega) (fun i hi => by
          by_cases hi0 : i = 0
          · subst hi0; (simp only [bind_exc, toS_exc, seq_exc, seq_rt, x_var, x_c, x_bin, x_un, x_fn, x_bm, x_tst, x_notT, x_andT, x_orT, x_if, x_not, x_and, x_or, x_nil, x_cons, x_star, x_tup, x_lst, x_call, x_sl, x_oN, x_oS, x_lrg, x_trg, x_iseq, x_enum, x_zip, x_yes, x_mk, x_mt, x_fld, x_snil, x_set, x_ret, x_sif, x_drop, x_raise, x_asg, x_par, x_asgH, x_hsub, x_sfld, bind_ok, toS_ok, seq_nx, opt_ok, sel_0, sel_1, sel_2, sel_3, sel_nil, mkL_f, mkL_t, f_int, f_add, f_eqI, f_neI, f_abs, f_i1, f_max2, f_min2, f_neg, List.getElem?_cons_succ, List.getElem?_cons_zero, List.set_cons_succ, List.set_cons_zero, List.length_cons, List.length_nil, List.cons_append, List.nil_append, List.map_cons, List.map_nil, List.zip_cons_cons, List.zip_nil_left, List.zip_nil_right, List.foldl_cons, List.foldl_nil, szl, ite_true, ite_false, Nat.zero_add, Nat.reduceAdd, Nat.reduceSub, ↓reduceIte, and_self, and_true, true_and, Bool.not_true, Bool.not_false, Bool.not_not, Bool.false_eq_true, reduceCtorEq, gN, gT, gsNil, gsCons, hName, hTup, hsNil, hsCons, Option.bind_some, Option.map_some, partO, seqv_tup, seqv_fl, decide_true, decide_false, Nat.reduceLeDiff, wipeE, decide_eq_true (show ((0 : Nat) : Int) = 0 from rfl)]; try rfl)
          · (simp only [bind_exc, toS_exc, seq_exc, seq_rt, x_var, x_c, x_bin, x_un, x_fn, x_bm, x_tst, x_notT, x_andT, x_orT, x_if, x_not, x_and, x_or, x_nil, x_cons, x_star, x_tup, x_lst, x_call, x_sl, x_oN, x_oS, x_lrg, x_trg, x_iseq, x_enum, x_zip, x_yes, x_mk, x_mt, x_fld, x_snil, x_set, x_ret, x_sif, x_drop, x_raise, x_asg, x_par, x_asgH, x_hsub, x_sfld, bind_ok, toS_ok, seq_nx, opt_ok, sel_0, sel_1, sel_2, sel_3, sel_nil, mkL_f, mkL_t, f_int, f_add, f_eqI, f_neI, f_abs, f_i1, f_max2, f_min2, f_neg, List.getElem?_cons_succ, List.getElem?_cons_zero, List.set_cons_succ, List.set_cons_zero, List.length_cons, List.length_nil, List.cons_append, List.nil_append, List.map_cons, List.map_nil, List.zip_cons_cons, List.zip_nil_left, List.zip_nil_right, List.foldl_cons, List.foldl_nil, szl, ite_true, ite_false, Nat.zero_add, Nat.reduceAdd, Nat.reduceSub, ↓reduceIte, and_self, and_true, true_and, Bool.not_true, Bool.not_false, Bool.not_not, Bool.false_eq_true, reduceCtorEq, gN, gT, gsNil, gsCons, hName, hTup, hsNil, hsCons, Option.bind_some, Option.map_some, partO, seqv_tup, seqv_fl, decide_true, decide_false, Nat.reduceLeDiff, wipeE, decide_eq_false (show ¬ (i : Int) = 0 by omega), if_neg hi0]; try rfl)))) (fin _ fun i hi => by
          by_cases hi0 : i = 0
          · simp only [if_pos hi0]; omega
          · simp only [if_neg hi0]; omega)
    refine sp_skip (st1 := st1) (by (simp only [bind_exc, toS_exc, seq_exc, seq_rt, x_var, x_c, x_bin, x_un, x_fn, x_bm, x_tst, x_notT, x_andT, x_orT, x_if, x_not, x_and, x_or, x_nil, x_cons, x_star, x_tup, x_lst, x_call, x_sl, x_oN, x_oS, x_lrg, x_trg, x_iseq, x_enum, x_zip, x_yes, x_mk, x_mt, x_fld, x_snil, x_set, x_ret, x_sif, x_drop, x_raise, x_asg, x_par, x_asgH, x_hsub, x_sfld, bind_ok, toS_ok, seq_nx, opt_ok, sel_0, sel_1, sel_2, sel_3, sel_nil, mkL_f, mkL_t, f_int, f_add, f_eqI, f_neI, f_abs, f_i1, f_max2, f_min2, f_neg, List.getElem?_cons_succ, List.getElem?_cons_zero, List.set_cons_succ, List.set_cons_zero, List.length_cons, List.length_nil, List.cons_append, List.nil_append, List.map_cons, List.map_nil, List.zip_cons_cons, List.zip_nil_left, List.zip_nil_right, List.foldl_cons, List.foldl_nil, szl, ite_true, ite_false, Nat.zero_add, Nat.reduceAdd, Nat.reduceSub, ↓reduceIte, and_self, and_true, true_and, Bool.not_true, Bool.not_false, Bool.not_not, Bool.false_eq_true, reduceCtorEq, gN, gT, gsNil, gsCons, hName, hTup, hsNil, hsCons, Option.bind_some, Option.map_some, partO, seqv_tup, seqv_fl, decide_true, decide_false, Nat.reduceLeDiff, decide_eq_false f2]; try rfl)) ?_
    by_cases f3 : form = 3
    · refine sp_leave (st1 := st1) (by (simp only [bind_exc, toS_exc, seq_exc, seq_rt, x_var, x_c, x_bin, x_un, x_fn, x_bm, x_tst, x_notT, x_andT, x_orT, x_if, x_not, x_and, x_or, x_nil, x_cons, x_star, x_tup, x_lst, x_call, x_sl, x_oN, x_oS, x_lrg, x_trg, x_iseq, x_enum, x_zip, x_yes, x_mk, x_mt, x_fld, x_snil, x_set, x_ret, x_sif, x_drop, x_raise, x_asg, x_par, x_asgH, x_hsub, x_sfld, bind_ok, toS_ok, seq_nx, opt_ok, sel_0, sel_1, sel_2, sel_3, sel_nil, mkL_f, mkL_t, f_int, f_add, f_eqI, f_neI, f_abs, f_i1, f_max2, f_min2, f_neg, List.getElem?_cons_succ, List.getElem?_cons_zero, List.set_cons_succ, List.set_cons_zero, List.length_cons, List.length_nil, List.cons_append, List.nil_append, List.map_cons, List.map_nil, List.zip_cons_cons, List.zip_nil_left, List.zip_nil_right, List.foldl_cons, List.foldl_nil, szl, ite_true, ite_false, Nat.zero_add, Nat.reduceAdd, Nat.reduceSub, ↓reduceIte, and_self, and_true, true_and, Bool.not_true, Bool.not_false, Bool.not_not, Bool.false_eq_true, reduceCtorEq, gN, gT, gsNil, gsCons, hName, hTup, hsNil, hsCons, Option.bind_some, Option.map_some, partO, seqv_tup, seqv_fl, decide_true, decide_false, Nat.reduceLeDiff, decide_eq_true f3]; try rfl)) ?_
      refine sp_ret ((comp_rg (n := n) (fun i => let m := if (i : Int) + to - 1 < (n : Int) - 1 then (i : Int) + to - 1 else (n : Int) - 1; if m > 0 then m else 0) (by (simp only [bind_exc, toS_exc, seq_exc, seq_rt, x_var, x_c, x_bin, x_un, x_fn, x_bm, x_tst, x_notT, x_andT, x_orT, x_if, x_not, x_and, x_or, x_nil, x_cons, x_star, x_tup, x_lst, x_call, x_sl, x_oN, x_oS, x_lrg, x_trg, x_iseq, x_enum, x_zip, x_yes, x_mk, x_mt, x_fld, x_snil, x_set, x_ret, x_sif, x_drop, x_raise, x_asg, x_par, x_asgH, x_hsub, x_sfld, bind_ok, toS_ok, seq_nx, opt_ok, sel_0, sel_1, sel_2, sel_3, sel_nil, mkL_f, mkL_t, f_int, f_add, f_eqI, f_neI, f_abs, f_i1, f_max2, f_min2, f_neg, List.getElem?_cons_succ, List.getElem?_cons_zero, List.set_cons_succ, List.set_cons_zero, List.length_cons, List.length_nil, List.cons_append, List.nil_append, List.map_cons, List.map_nil, List.zip_cons_cons, List.zip_nil_left, List.zip_nil_right, List.foldl_cons, List.foldl_nil, szl, ite_true, ite_false, Nat.zero_add, Nat.reduceAdd, Nat.reduceSub, ↓reduceIte, and_self, and_true, true_and, Bool.not_true, Bool.not_false, Bool.not_not, Bool.false_eq_true, reduceCtorEq, gN, gT, gsNil, gsCons, hName, hTup, hsNil, hsCons, Option.bind_some, Option.map_some, partO, seqv_tup, seqv_fl, decide_true, decide_false, Nat.reduceLeDiff]; try rfl)) (by omega) (fun i hi => by (simp only [bind_exc, toS_exc, seq_exc, seq_rt, x_var, x_c, x_bin, x_un, x_fn, x_bm, x_tst, x_notT, x_andT, x_orT, x_if, x_not, x_and, x_or, x_nil, x_cons, x_star, x_tup, x_lst, x_call, x_sl, x_oN, x_oS, x_lrg, x_trg, x_iseq, x_enum, x_zip, x_yes, x_mk, x_mt, x_fld, x_snil, x_set, x_ret, x_sif, x_drop, x_raise, x_asg, x_par, x_asgH, x_hsub, x_sfld, bind_ok, toS_ok, seq_nx, opt_ok, sel_0, sel_1, sel_2, sel_3, sel_nil, mkL_f, mkL_t, f_int, f_add, f_eqI, f_neI, f_abs, f_i1, f_max2, f_min2, f_neg, List.getElem?_cons_succ, List.getElem?_cons_zero, List.set_cons_succ, List.set_cons_zero, List.length_cons, List.length_nil, List.cons_append, List.nil_append, List.map_cons, List.map_nil, List.zip_cons_cons, List.zip_nil_left, List.zip_nil_right, List.foldl_cons, List.foldl_nil, szl, ite_true, ite_false, Nat.zero_add, Nat.reduceAdd, Nat.reduceSub, ↓reduceIte, and_self, and_true, true_and, Bool.not_true, Bool.not_false, Bool.not_not, Bool.false_eq_true, reduceCtorEq, gN, gT, gsNil, gsCons, hName, hTup, hsNil, hsCons, Option.bind_some, Option.map_some, partO, seqv_tup, seqv_fl, decide_true, decide_false, Nat.reduceLeDiff, wipeE]; try rfl)))) (fin _ fun i hi => by
        dsimp only
        split <;> split <;> omega)
    refine sp_skip (st1 := st1) (by (simp only [bind_exc, toS_exc, seq_exc, seq_rt, x_var, x_c, x_bin, x_un, x_fn, x_bm, x_tst, x_notT, x_andT, x_orT, x_if, x_not, x_and, x_or, x_nil, x_cons, x_star, x_tup, x_lst, x_call, x_sl, x_oN, x_oS, x_lrg, x_trg, x_iseq, x_enum, x_zip, x_yes, x_mk, x_mt, x_fld, x_snil, x_set, x_ret, x_sif, x_drop, x_raise, x_asg, x_par, x_asgH, x_hsub, x_sfld, bind_ok, toS_ok, seq_nx, opt_ok, sel_0, sel_1, sel_2, sel_3, sel_nil, mkL_f, mkL_t, f_int, f_add, f_eqI, f_neI, f_abs, f_i1, f_max2, f_min2, f_neg, List.getElem?_cons_succ, List.getElem?_cons_zero, List.set_cons_succ, List.set_cons_zero, List.length_cons, List.length_nil, List.cons_append, List.nil_append, List.map_cons, List.map_nil, List.zip_cons_cons, List.zip_nil_left, List.zip_nil_right, List.foldl_cons, List.foldl_nil, szl, ite_true, ite_false, Nat.zero_add, Nat.reduceAdd, Nat.reduceSub, ↓reduceIte, and_self, and_true, true_and, Bool.not_true, Bool.not_false, Bool.not_not, Bool.false_eq_true, reduceCtorEq, gN, gT, gsNil, gsCons, hName, hTup, hsNil, hsCons, Option.bind_some, Option.map_some, partO, seqv_tup, seqv_fl, decide_true, decide_false, Nat.reduceLeDiff, decide_eq_false f3]; try rfl)) ?_
    by_cases f4 : form = 4
    · refine sp_leave (st1 := st1) (by (simp only [bind_exc, toS_exc, seq_exc, seq_rt, x_var, x_c, x_bin, x_un, x_fn, x_bm, x_tst, x_notT, x_andT, x_orT, x_if, x_not, x_and, x_or, x_nil, x_cons, x_star, x_tup, x_lst, x_call, x_sl, x_oN, x_oS, x_lrg, x_trg, x_iseq, x_enum, x_zip, x_yes, x_mk, x_mt, x_fld, x_snil, x_set, x_ret, x_sif, x_drop, x_raise, x_asg, x_par, x_asgH, x_hsub, x_sfld, bind_ok, toS_ok, seq_nx, opt_ok, sel_0, sel_1, sel_2, sel_3, sel_nil, mkL_f, mkL_t, f_int, f_add, f_eqI, f_neI, f_abs, f_i1, f_max2, f_min2, f_neg, List.getElem?_cons_succ, List.getElem?_cons_zero, List.set_cons_succ, List.set_cons_zero, List.length_cons, List.length_nil, List.cons_append, List.nil_append, List.map_cons, List.map_nil, List.zip_cons_cons, List.zip_nil_left, List.zip_nil_right, List.foldl_cons, List.foldl_nil, szl, ite_true, ite_false, Nat.zero_add, Nat.reduceAdd, Nat.reduceSub, ↓reduceIte, and_self, and_true, true_and, Bool.not_true, Bool.not_false, Bool.not_not, Bool.false_eq_true, reduceCtorEq, gN, gT, gsNil, gsCons, hName, hTup, hsNil, hsCons, Option.bind_some, Option.map_some, partO, seqv_tup, seqv_fl, decide_true, decide_false, Nat.reduceLeDiff, decide_eq_true f4]; try rfl)) ?_
      obtain ⟨ys, st2, m1, m2, m3⟩ := mixed_ok (x := .fl ((List.range n).map (fun i => D.int (0 + (i : Nat))))) (j := 0) g4 rfl (fun d hd => by
        obtain ⟨i, _, rfl⟩ := List.mem_map.mp hd
        exact PD.int) (by omega) (by rw [List.length_map, List.length_range]; omega)
      refine sp_ret (d := .ref (rest.length + 3)) (st1 := st2) (by
        (simp only [bind_exc, toS_exc, seq_exc, seq_rt, x_var, x_c, x_bin, x_un, x_fn, x_bm, x_tst, x_notT, x_andT, x_orT, x_if, x_not, x_and, x_or, x_nil, x_cons, x_star, x_tup, x_lst, x_call, x_sl, x_oN, x_oS, x_lrg, x_trg, x_iseq, x_enum, x_zip, x_yes, x_mk, x_mt, x_fld, x_snil, x_set, x_ret, x_sif, x_drop, x_raise, x_asg, x_par, x_asgH, x_hsub, x_sfld, bind_ok, toS_ok, seq_nx, opt_ok, sel_0, sel_1, sel_2, sel_3, sel_nil, mkL_f, mkL_t, f_int, f_add, f_eqI, f_neI, f_abs, f_i1, f_max2, f_min2, f_neg, List.getElem?_cons_succ, List.getElem?_cons_zero, List.set_cons_succ, List.set_cons_zero, List.length_cons, List.length_nil, List.cons_append, List.nil_append, List.map_cons, List.map_nil, List.zip_cons_cons, List.zip_nil_left, List.zip_nil_right, List.foldl_cons, List.foldl_nil, szl, ite_true, ite_false, Nat.zero_add, Nat.reduceAdd, Nat.reduceSub, ↓reduceIte, and_self, and_true, true_and, Bool.not_true, Bool.not_false, Bool.not_not, Bool.false_eq_true, reduceCtorEq, gN, gT, gsNil, gsCons, hName, hTup, hsNil, hsCons, Option.bind_some, Option.map_some, partO, seqv_tup, seqv_fl, decide_true, decide_false, Nat.reduceLeDiff, hrg, List.length_map, List.length_range, if_pos (show n ≤ 16777216 by omega), m1]; try rfl)) ?_
      obtain ⟨cs, rfl, hcs⟩ := ints_of (P := fun i => 0 ≤ i ∧ i < n) (ys := ys) fun y hy => by
        obtain ⟨i, hi, rfl⟩ := List.mem_map.mp (m2.symm.subset hy)
        have := List.mem_range.mp hi
        exact ⟨_, rfl, by omega, by omega⟩
      refine ⟨_, _, gcD_keep (by rw [h.len]; simp only [noRef, decide_eq_false_iff_not]; omega), cs, _, m3, .inr ⟨rest.length + 1, by omega, rfl, at1⟩, ?_, hcs⟩
      have := m2.length_eq
      rw [List.length_map, List.length_map, List.length_range] at this
      exact this.symm
    refine sp_skip (st1 := st1) (by (simp only [bind_exc, toS_exc, seq_exc, seq_rt, x_var, x_c, x_bin, x_un, x_fn, x_bm, x_tst, x_notT, x_andT, x_orT, x_if, x_not, x_and, x_or, x_nil, x_cons, x_star, x_tup, x_lst, x_call, x_sl, x_oN, x_oS, x_lrg, x_trg, x_iseq, x_enum, x_zip, x_yes, x_mk, x_mt, x_fld, x_snil, x_set, x_ret, x_sif, x_drop, x_raise, x_asg, x_par, x_asgH, x_hsub, x_sfld, bind_ok, toS_ok, seq_nx, opt_ok, sel_0, sel_1, sel_2, sel_3, sel_nil, mkL_f, mkL_t, f_int, f_add, f_eqI, f_neI, f_abs, f_i1, f_max2, f_min2, f_neg, List.getElem?_cons_succ, List.getElem?_cons_zero, List.set_cons_succ, List.set_cons_zero, List.length_cons, List.length_nil, List.cons_append, List.nil_append, List.map_cons, List.map_nil, List.zip_cons_cons, List.zip_nil_left, List.zip_nil_right, List.foldl_cons, List.foldl_nil, szl, ite_true, ite_false, Nat.zero_add, Nat.reduceAdd, Nat.reduceSub, ↓reduceIte, and_self, and_true, true_and, Bool.not_true, Bool.not_false, Bool.not_not, Bool.false_eq_true, reduceCtorEq, gN, gT, gsNil, gsCons, hName, hTup, hsNil, hsCons, Option.bind_some, Option.map_some, partO, seqv_tup, seqv_fl, decide_true, decide_false, Nat.reduceLeDiff, decide_eq_false f4]; try rfl)) ?_
    by_cases f5 : form = 5
    · refine sp_leave (st1 := st1) (by (simp only [bind_exc, toS_exc, seq_exc, seq_rt, x_var, x_c, x_bin, x_un, x_fn, x_bm, x_tst, x_notT, x_andT, x_orT, x_if, x_not, x_and, x_or, x_nil, x_cons, x_star, x_tup, x_lst, x_call, x_sl, x_oN, x_oS, x_lrg, x_trg, x_iseq, x_enum, x_zip, x_yes, x_mk, x_mt, x_fld, x_snil, x_set, x_ret, x_sif, x_drop, x_raise, x_asg, x_par, x_asgH, x_hsub, x_sfld, bind_ok, toS_ok, seq_nx, opt_ok, sel_0, sel_1, sel_2, sel_3, sel_nil, mkL_f, mkL_t, f_int, f_add, f_eqI, f_neI, f_abs, f_i1, f_max2, f_min2, f_neg, List.getElem?_cons_succ, List.getElem?_cons_zero, List.set_cons_succ, List.set_cons_zero, List.length_cons, List.length_nil, List.cons_append, List.nil_append, List.map_cons, List.map_nil, List.zip_cons_cons, List.zip_nil_left, List.zip_nil_right, List.foldl_cons, List.foldl_nil, szl, ite_true, ite_false, Nat.zero_add, Nat.reduceAdd, Nat.reduceSub, ↓reduceIte, and_self, and_true, true_and, Bool.not_true, Bool.not_false, Bool.not_not, Bool.false_eq_true, reduceCtorEq, gN, gT, gsNil, gsCons, hName, hTup, hsNil, hsCons, Option.bind_some, Option.map_some, partO, seqv_tup, seqv_fl, decide_true, decide_false, Nat.reduceLeDiff, decide_eq_true f5]; try rfl)) ?_
      refine sp_ret ((comp_rg (n := n) (fun i => if to > (i : Int) then to else i) (by (simp only [bind_exc, toS_exc, seq_exc, seq_rt, x_var, x_c, x_bin, x_un, x_fn, x_bm, x_tst, x_notT, x_andT, x_orT, x_if, x_not, x_and, x_or, x_nil, x_cons, x_star, x_tup, x_lst, x_call, x_sl, x_oN, x_oS, x_lrg, x_trg, x_iseq, x_enum, x_zip, x_yes, x_mk, x_mt, x_fld, x_snil, x_set, x_ret, x_sif, x_drop, x_raise, x_asg, x_par, x_asgH, x_hsub, x_sfld, bind_ok, toS_ok, seq_nx, opt_ok, sel_0, sel_1, sel_2, sel_3, sel_nil, mkL_f, mkL_t, f_int, f_add, f_eqI, f_neI, f_abs, f_i1, f_max2, f_min2, f_neg, List.getElem?_cons_succ, List.getElem?_cons_zero, List.set_cons_succ, List.set_cons_zero, List.length_cons, List.length_nil, List.cons_append, List.nil_append, List.map_cons, List.map_nil, List.zip_cons_cons, List.zip_nil_left, List.zip_nil_right, List.foldl_cons, List.foldl_nil, szl, ite_true, ite_false, Nat.zero_add, Nat.reduceAdd, Nat.reduceSub, ↓reduceIte, and_self, and_true, true_and, Bool.not_true, Bool.not_false, Bool.not_not, Bool.false_eq_true, reduceCtorEq, gN, gT, gsNil, gsCons, hName, hTup, hsNil, hsCons, Option.bind_some, Option.map_some, partO, seqv_tup, seqv_fl, decide_true, decide_false, Nat.reduceLeDiff]; try rfl)) (by omega) (fun i hi => by (simp only [bind_exc, toS_exc, seq_exc, seq_rt, x_var, x_c, x_bin, x_un, x_fn, x_bm, x_tst, x_notT, x_andT, x_orT, x_if, x_not, x_and, x_or, x_nil, x_cons, x_star, x_tup, x_lst, x_call, x_sl, x_oN, x_oS, x_lrg, x_trg, x_iseq, x_enum, x_zip, x_yes, x_mk, x_mt, x_fld, x_snil, x_set, x_ret, x_sif, x_drop, x_raise, x_asg, x_par, x_asgH, x_hsub, x_sfld, bind_ok, toS_ok, seq_nx, opt_ok, sel_0, sel_1, sel_2, sel_3, sel_nil, mkL_f, mkL_t, f_int, f_add, f_eqI, f_neI, f_abs, f_i1, f_max2, f_min2, f_neg, List.getElem?_cons_succ, List.getElem?_cons_zero, List.set_cons_succ, List.set_cons_zero, List.length_cons, List.length_nil, List.cons_append, List.nil_append, List.map_cons, List.map_nil, List.zip_cons_cons, List.zip_nil_left, List.zip_nil_right, List.foldl_cons, List.foldl_nil, szl, ite_true, ite_false, Nat.zero_add, Nat.reduceAdd, Nat.reduceSub, ↓reduceIte, and_self, and_true, true_and, Bool.not_true, Bool.not_false, Bool.not_not, Bool.false_eq_true, reduceCtorEq, gN, gT, gsNil, gsCons, hName, hTup, hsNil, hsCons, Option.bind_some, Option.map_some, partO, seqv_tup, seqv_fl, decide_true, decide_false, Nat.reduceLeDiff, wipeE]; try rfl)))) (fin _ fun i hi => by
        split <;> omega)
    refine sp_skip (st1 := st1) (by (simp only [bind_exc, toS_exc, seq_exc, seq_rt, x_var, x_c, x_bin, x_un, x_fn, x_bm, x_tst, x_notT, x_andT, x_orT, x_if, x_not, x_and, x_or, x_nil, x_cons, x_star, x_tup, x_lst, x_call, x_sl, x_oN, x_oS, x_lrg, x_trg, x_iseq, x_enum, x_zip, x_yes, x_mk, x_mt, x_fld, x_snil, x_set, x_ret, x_sif, x_drop, x_raise, x_asg, x_par, x_asgH, x_hsub, x_sfld, bind_ok, toS_ok, seq_nx, opt_ok, sel_0, sel_1, sel_2, sel_3, sel_nil, mkL_f, mkL_t, f_int, f_add, f_eqI, f_neI, f_abs, f_i1, f_max2, f_min2, f_neg, List.getElem?_cons_succ, List.getElem?_cons_zero, List.set_cons_succ, List.set_cons_zero, List.length_cons, List.length_nil, List.cons_append, List.nil_append, List.map_cons, List.map_nil, List.zip_cons_cons, List.zip_nil_left, List.zip_nil_right, List.foldl_cons, List.foldl_nil, szl, ite_true, ite_false, Nat.zero_add, Nat.reduceAdd, Nat.reduceSub, ↓reduceIte, and_self, and_true, true_and, Bool.not_true, Bool.not_false, Bool.not_not, Bool.false_eq_true, reduceCtorEq, gN, gT, gsNil, gsCons, hName, hTup, hsNil, hsCons, Option.bind_some, Option.map_some, partO, seqv_tup, seqv_fl, decide_true, decide_false, Nat.reduceLeDiff, decide_eq_false f5]; try rfl)) ?_
    by_cases f6 : form = 6
    · refine sp_leave (st1 := st1) (by (simp only [bind_exc, toS_exc, seq_exc, seq_rt, x_var, x_c, x_bin, x_un, x_fn, x_bm, x_tst, x_notT, x_andT, x_orT, x_if, x_not, x_and, x_or, x_nil, x_cons, x_star, x_tup, x_lst, x_call, x_sl, x_oN, x_oS, x_lrg, x_trg, x_iseq, x_enum, x_zip, x_yes, x_mk, x_mt, x_fld, x_snil, x_set, x_ret, x_sif, x_drop, x_raise, x_asg, x_par, x_asgH, x_hsub, x_sfld, bind_ok, toS_ok, seq_nx, opt_ok, sel_0, sel_1, sel_2, sel_3, sel_nil, mkL_f, mkL_t, f_int, f_add, f_eqI, f_neI, f_abs, f_i1, f_max2, f_min2, f_neg, List.getElem?_cons_succ, List.getElem?_cons_zero, List.set_cons_succ, List.set_cons_zero, List.length_cons, List.length_nil, List.cons_append, List.nil_append, List.map_cons, List.map_nil, List.zip_cons_cons, List.zip_nil_left, List.zip_nil_right, List.foldl_cons, List.foldl_nil, szl, ite_true, ite_false, Nat.zero_add, Nat.reduceAdd, Nat.reduceSub, ↓reduceIte, and_self, and_true, true_and, Bool.not_true, Bool.not_false, Bool.not_not, Bool.false_eq_true, reduceCtorEq, gN, gT, gsNil, gsCons, hName, hTup, hsNil, hsCons, Option.bind_some, Option.map_some, partO, seqv_tup, seqv_fl, decide_true, decide_false, Nat.reduceLeDiff, decide_eq_true f6]; try rfl)) ?_
      obtain ⟨hf, hhf, hf0, hf1⟩ : ∃ hf : Int, (if (n : Int) / 2 > 1 then (n : Int) / 2 else 1) = hf ∧ 0 < hf ∧ hf ≤ n := ⟨_, rfl, by split <;> omega, by split <;> omega⟩
      refine sp_step (e1 := [some (.ref 1), some (.int form), some (.int n), some (.int to), some (.int hf), none]) (st1 := st1) (by (simp only [bind_exc, toS_exc, seq_exc, seq_rt, x_var, x_c, x_bin, x_un, x_fn, x_bm, x_tst, x_notT, x_andT, x_orT, x_if, x_not, x_and, x_or, x_nil, x_cons, x_star, x_tup, x_lst, x_call, x_sl, x_oN, x_oS, x_lrg, x_trg, x_iseq, x_enum, x_zip, x_yes, x_mk, x_mt, x_fld, x_snil, x_set, x_ret, x_sif, x_drop, x_raise, x_asg, x_par, x_asgH, x_hsub, x_sfld, bind_ok, toS_ok, seq_nx, opt_ok, sel_0, sel_1, sel_2, sel_3, sel_nil, mkL_f, mkL_t, f_int, f_add, f_eqI, f_neI, f_abs, f_i1, f_max2, f_min2, f_neg, List.getElem?_cons_succ, List.getElem?_cons_zero, List.set_cons_succ, List.set_cons_zero, List.length_cons, List.length_nil, List.cons_append, List.nil_append, List.map_cons, List.map_nil, List.zip_cons_cons, List.zip_nil_left, List.zip_nil_right, List.foldl_cons, List.foldl_nil, szl, ite_true, ite_false, Nat.zero_add, Nat.reduceAdd, Nat.reduceSub, ↓reduceIte, and_self, and_true, true_and, Bool.not_true, Bool.not_false, Bool.not_not, Bool.false_eq_true, reduceCtorEq, gN, gT, gsNil, gsCons, hName, hTup, hsNil, hsCons, Option.bind_some, Option.map_some, partO, seqv_tup, seqv_fl, decide_true, decide_false, Nat.reduceLeDiff, f_div (show (0 : Int) < 2 by omega) (show (2 : Int) < 2 ^ 63 by omega), hhf]; try rfl)) ?_
      have lt2 : (2 : Int) < 2 ^ 63 := by omega
      have hm : ∀ st, fMul false (.int 2) (.int hf) st = .ok (.int (2 * hf)) st := fun st => f_mul (by omega) lt2 (by omega) (by omega)
      refine sp_ret ((comp_rg (n := n) (fun i => ((i : Int) + to) % hf + (if hf ≤ (i : Int) ∧ 2 * hf ≤ n then hf else 0)) (by (simp only [bind_exc, toS_exc, seq_exc, seq_rt, x_var, x_c, x_bin, x_un, x_fn, x_bm, x_tst, x_notT, x_andT, x_orT, x_if, x_not, x_and, x_or, x_nil, x_cons, x_star, x_tup, x_lst, x_call, x_sl, x_oN, x_oS, x_lrg, x_trg, x_iseq, x_enum, x_zip, x_yes, x_mk, x_mt, x_fld, x_snil, x_set, x_ret, x_sif, x_drop, x_raise, x_asg, x_par, x_asgH, x_hsub, x_sfld, bind_ok, toS_ok, seq_nx, opt_ok, sel_0, sel_1, sel_2, sel_3, sel_nil, mkL_f, mkL_t, f_int, f_add, f_eqI, f_neI, f_abs, f_i1, f_max2, f_min2, f_neg, List.getElem?_cons_succ, List.getElem?_cons_zero, List.set_cons_succ, List.set_cons_zero, List.length_cons, List.length_nil, List.cons_append, List.nil_append, List.map_cons, List.map_nil, List.zip_cons_cons, List.zip_nil_left, List.zip_nil_right, List.foldl_cons, List.foldl_nil, szl, ite_true, ite_false, Nat.zero_add, Nat.reduceAdd, Nat.reduceSub, ↓reduceIte, and_self, and_true, true_and, Bool.not_true, Bool.not_false, Bool.not_not, Bool.false_eq_true, reduceCtorEq, gN, gT, gsNil, gsCons, hName, hTup, hsNil, hsCons, Option.bind_some, Option.map_some, partO, seqv_tup, seqv_fl, decide_true, decide_false, Nat.reduceLeDiff]; try rfl)) (by omega) (fun i hi => by
        by_cases q1 : hf ≤ (i : Int)
        · by_cases q2 : 2 * hf ≤ (n : Int)
          · (simp only [bind_exc, toS_exc, seq_exc, seq_rt, x_var, x_c, x_bin, x_un, x_fn, x_bm, x_tst, x_notT, x_andT, x_orT, x_if, x_not, x_and, x_or, x_nil, x_cons, x_star, x_tup, x_lst, x_call, x_sl, x_oN, x_oS, x_lrg, x_trg, x_iseq, x_enum, x_zip, x_yes, x_mk, x_mt, x_fld, x_snil, x_set, x_ret, x_sif, x_drop, x_raise, x_asg, x_par, x_asgH, x_hsub, x_sfld, bind_ok, toS_ok, seq_nx, opt_ok, sel_0, sel_1, sel_2, sel_3, sel_nil, mkL_f, mkL_t, f_int, f_add, f_eqI, f_neI, f_abs, f_i1, f_max2, f_min2, f_neg, List.getElem?_cons_succ, List.getElem?_cons_zero, List.set_cons_succ, List.set_cons_zero, List.length_cons, List.length_nil, List.cons_append, List.nil_append, List.map_cons, List.map_nil, List.zip_cons_cons, List.zip_nil_left, List.zip_nil_right, List.foldl_cons, List.foldl_nil, szl, ite_true, ite_false, Nat.zero_add, Nat.reduceAdd, Nat.reduceSub, ↓reduceIte, and_self, and_true, true_and, Bool.not_true, Bool.not_false, Bool.not_not, Bool.false_eq_true, reduceCtorEq, gN, gT, gsNil, gsCons, hName, hTup, hsNil, hsCons, Option.bind_some, Option.map_some, partO, seqv_tup, seqv_fl, decide_true, decide_false, Nat.reduceLeDiff, wipeE, f_mod hf0, hm, decide_eq_true q1, decide_eq_true q2, if_pos (show hf ≤ (i : Int) ∧ 2 * hf ≤ (n : Int) from ⟨q1, q2⟩)]; try rfl)
          · (simp only [bind_exc, toS_exc, seq_exc, seq_rt, x_var, x_c, x_bin, x_un, x_fn, x_bm, x_tst, x_notT, x_andT, x_orT, x_if, x_not, x_and, x_or, x_nil, x_cons, x_star, x_tup, x_lst, x_call, x_sl, x_oN, x_oS, x_lrg, x_trg, x_iseq, x_enum, x_zip, x_yes, x_mk, x_mt, x_fld, x_snil, x_set, x_ret, x_sif, x_drop, x_raise, x_asg, x_par, x_asgH, x_hsub, x_sfld, bind_ok, toS_ok, seq_nx, opt_ok, sel_0, sel_1, sel_2, sel_3, sel_nil, mkL_f, mkL_t, f_int, f_add, f_eqI, f_neI, f_abs, f_i1, f_max2, f_min2, f_neg, List.getElem?_cons_succ, List.getElem?_cons_zero, List.set_cons_succ, List.set_cons_zero, List.length_cons, List.length_nil, List.cons_append, List.nil_append, List.map_cons, List.map_nil, List.zip_cons_cons, List.zip_nil_left, List.zip_nil_right, List.foldl_cons, List.foldl_nil, szl, ite_true, ite_false, Nat.zero_add, Nat.reduceAdd, Nat.reduceSub, ↓reduceIte, and_self, and_true, true_and, Bool.not_true, Bool.not_false, Bool.not_not, Bool.false_eq_true, reduceCtorEq, gN, gT, gsNil, gsCons, hName, hTup, hsNil, hsCons, Option.bind_some, Option.map_some, partO, seqv_tup, seqv_fl, decide_true, decide_false, Nat.reduceLeDiff, wipeE, f_mod hf0, hm, decide_eq_true q1, decide_eq_false q2, if_neg (show ¬ (hf ≤ (i : Int) ∧ 2 * hf ≤ (n : Int)) from fun z => q2 z.2)]; try rfl)
        · (simp only [bind_exc, toS_exc, seq_exc, seq_rt, x_var, x_c, x_bin, x_un, x_fn, x_bm, x_tst, x_notT, x_andT, x_orT, x_if, x_not, x_and, x_or, x_nil, x_cons, x_star, x_tup, x_lst, x_call, x_sl, x_oN, x_oS, x_lrg, x_trg, x_iseq, x_enum, x_zip, x_yes, x_mk, x_mt, x_fld, x_snil, x_set, x_ret, x_sif, x_drop, x_raise, x_asg, x_par, x_asgH, x_hsub, x_sfld, bind_ok, toS_ok, seq_nx, opt_ok, sel_0, sel_1, sel_2, sel_3, sel_nil, mkL_f, mkL_t, f_int, f_add, f_eqI, f_neI, f_abs, f_i1, f_max2, f_min2, f_neg, List.getElem?_cons_succ, List.getElem?_cons_zero, List.set_cons_succ, List.set_cons_zero, List.length_cons, List.length_nil, List.cons_append, List.nil_append, List.map_cons, List.map_nil, List.zip_cons_cons, List.zip_nil_left, List.zip_nil_right, List.foldl_cons, List.foldl_nil, szl, ite_true, ite_false, Nat.zero_add, Nat.reduceAdd, Nat.reduceSub, ↓reduceIte, and_self, and_true, true_and, Bool.not_true, Bool.not_false, Bool.not_not, Bool.false_eq_true, reduceCtorEq, gN, gT, gsNil, gsCons, hName, hTup, hsNil, hsCons, Option.bind_some, Option.map_some, partO, seqv_tup, seqv_fl, decide_true, decide_false, Nat.reduceLeDiff, wipeE, f_mod hf0, hm, decide_eq_false q1, if_neg (show ¬ (hf ≤ (i : Int) ∧ 2 * hf ≤ (n : Int)) from fun z => q1 z.1)]; try rfl)))) (fin _ fun i hi => by
        have a1 := Int.emod_nonneg ((i : Int) + to) (show hf ≠ 0 by omega)
        have a2 := Int.emod_lt_of_pos ((i : Int) + to) hf0
        split <;> omega)
    refine sp_skip (st1 := st1) (by (simp only [bind_exc, toS_exc, seq_exc, seq_rt, x_var, x_c, x_bin, x_un, x_fn, x_bm, x_tst, x_notT, x_andT, x_orT, x_if, x_not, x_and, x_or, x_nil, x_cons, x_star, x_tup, x_lst, x_call, x_sl, x_oN, x_oS, x_lrg, x_trg, x_iseq, x_enum, x_zip, x_yes, x_mk, x_mt, x_fld, x_snil, x_set, x_ret, x_sif, x_drop, x_raise, x_asg, x_par, x_asgH, x_hsub, x_sfld, bind_ok, toS_ok, seq_nx, opt_ok, sel_0, sel_1, sel_2, sel_3, sel_nil, mkL_f, mkL_t, f_int, f_add, f_eqI, f_neI, f_abs, f_i1, f_max2, f_min2, f_neg, List.getElem?_cons_succ, List.getElem?_cons_zero, List.set_cons_succ, List.set_cons_zero, List.length_cons, List.length_nil, List.cons_append, List.nil_append, List.map_cons, List.map_nil, List.zip_cons_cons, List.zip_nil_left, List.zip_nil_right, List.foldl_cons, List.foldl_nil, szl, ite_true, ite_false, Nat.zero_add, Nat.reduceAdd, Nat.reduceSub, ↓reduceIte, and_self, and_true, true_and, Bool.not_true, Bool.not_false, Bool.not_not, Bool.false_eq_true, reduceCtorEq, gN, gT, gsNil, gsCons, hName, hTup, hsNil, hsCons, Option.bind_some, Option.map_some, partO, seqv_tup, seqv_fl, decide_true, decide_false, Nat.reduceLeDiff, decide_eq_false f6]; try rfl)) ?_
    obtain ⟨ys, st2, q1, q2, q3, q4⟩ := cRun_ex (g := gN 5) (te := mCall F__law_any 2 0 [0, 1] (aCons (mVar 0) (aCons (mVar 2) aNil)) aNil) (env := [some (.ref 1), some (.int form), some (.int n), some (.int to), none, none]) (I := Dr rest) (R := fun y => ∃ i, y = .int i ∧ 0 ≤ i ∧ i < n) (fun d st hd => by
      obtain ⟨r, st', r1, r2, r3, r4⟩ := any_ok hd (show (0 : Int) < (n : Int) by omega) (by omega)
      exact ⟨_, _, st', rfl, (by (simp only [bind_exc, toS_exc, seq_exc, seq_rt, x_var, x_c, x_bin, x_un, x_fn, x_bm, x_tst, x_notT, x_andT, x_orT, x_if, x_not, x_and, x_or, x_nil, x_cons, x_star, x_tup, x_lst, x_call, x_sl, x_oN, x_oS, x_lrg, x_trg, x_iseq, x_enum, x_zip, x_yes, x_mk, x_mt, x_fld, x_snil, x_set, x_ret, x_sif, x_drop, x_raise, x_asg, x_par, x_asgH, x_hsub, x_sfld, bind_ok, toS_ok, seq_nx, opt_ok, sel_0, sel_1, sel_2, sel_3, sel_nil, mkL_f, mkL_t, f_int, f_add, f_eqI, f_neI, f_abs, f_i1, f_max2, f_min2, f_neg, List.getElem?_cons_succ, List.getElem?_cons_zero, List.set_cons_succ, List.set_cons_zero, List.length_cons, List.length_nil, List.cons_append, List.nil_append, List.map_cons, List.map_nil, List.zip_cons_cons, List.zip_nil_left, List.zip_nil_right, List.foldl_cons, List.foldl_nil, szl, ite_true, ite_false, Nat.zero_add, Nat.reduceAdd, Nat.reduceSub, ↓reduceIte, and_self, and_true, true_and, Bool.not_true, Bool.not_false, Bool.not_not, Bool.false_eq_true, reduceCtorEq, gN, gT, gsNil, gsCons, hName, hTup, hsNil, hsCons, Option.bind_some, Option.map_some, partO, seqv_tup, seqv_fl, decide_true, decide_false, Nat.reduceLeDiff, r1]; try rfl)), r4, r, rfl, r2, r3⟩) (ds := (List.range n).map (fun i => D.int (0 + (i : Nat)))) (acc := []) g4 (fun y hy => by cases hy) (by rw [List.length_map, List.length_range, List.length_nil, sizeV]; omega)
    obtain ⟨cs, rfl, hcs⟩ := ints_of q3
    refine sp_ret (d := .fl (cs.map .int)) (st1 := st2) (by
      (simp only [bind_exc, toS_exc, seq_exc, seq_rt, x_var, x_c, x_bin, x_un, x_fn, x_bm, x_tst, x_notT, x_andT, x_orT, x_if, x_not, x_and, x_or, x_nil, x_cons, x_star, x_tup, x_lst, x_call, x_sl, x_oN, x_oS, x_lrg, x_trg, x_iseq, x_enum, x_zip, x_yes, x_mk, x_mt, x_fld, x_snil, x_set, x_ret, x_sif, x_drop, x_raise, x_asg, x_par, x_asgH, x_hsub, x_sfld, bind_ok, toS_ok, seq_nx, opt_ok, sel_0, sel_1, sel_2, sel_3, sel_nil, mkL_f, mkL_t, f_int, f_add, f_eqI, f_neI, f_abs, f_i1, f_max2, f_min2, f_neg, List.getElem?_cons_succ, List.getElem?_cons_zero, List.set_cons_succ, List.set_cons_zero, List.length_cons, List.length_nil, List.cons_append, List.nil_append, List.map_cons, List.map_nil, List.zip_cons_cons, List.zip_nil_left, List.zip_nil_right, List.foldl_cons, List.foldl_nil, szl, ite_true, ite_false, Nat.zero_add, Nat.reduceAdd, Nat.reduceSub, ↓reduceIte, and_self, and_true, true_and, Bool.not_true, Bool.not_false, Bool.not_not, Bool.false_eq_true, reduceCtorEq, gN, gT, gsNil, gsCons, hName, hTup, hsNil, hsCons, Option.bind_some, Option.map_some, partO, seqv_tup, seqv_fl, decide_true, decide_false, Nat.reduceLeDiff, x_comp, hrg, wipeE, q1]; try rfl)) ?_
    refine ⟨_, _, gcD_same (by rw [q2.len, h.len]), cs, [], by rwa [List.append_nil], .inl rfl, ?_, hcs⟩
    rw [List.length_map, List.length_map, List.length_range, List.length_nil, Nat.zero_add] at q4
    exact q4
  obtain ⟨d, st', k1, cs, junk, k2, k3, k4, k5⟩ := z
  exact ⟨d, cs, junk, st', k1, k2, k3, k4, k5⟩
end
end Mi

namespace Mi
open PySem L2 Dw
theorem comp_rgD {c : EM} {te : EM} {e : En} {st : Sto} {v : Nat} {n : Nat} (f : Nat → D) (h : c e st = .ok (.int n) st) (hn : n < 2 ^ 20) (ht : ∀ i : Nat, i < n → te ((wipeE e [v]).set v (some (.int i))) st = .ok (f i) st) :
    mComp false (iRg1 c) (gN v) [v] tYesM te e st = .ok (.fl ((List.range n).map f)) st := by
  have hc := cRun_all (g := gN v) (te := te) (gd := none) (env := wipeE e [v]) (st := st) (fun i : Nat => D.int (0 + (i : Nat))) f (show grdOk none st from trivial) (xs := List.range n) (fun i hi => ⟨_, rfl, by
    have := ht i (by simpa using hi)
    rwa [Int.zero_add]⟩) (by rw [List.length_range, sizeV]; omega)
  rw [x_comp, rg1_of h (by omega) (by omega), bind_ok, Int.toNat_natCast]
  show (match cRun (gN v) tYesM te none (wipeE e [v]) [] _ st with
    | some (acc, st2) => mkL false acc st2
    | none => .bad) = _
  rw [hc]
  rfl
/-- [f(x) for x in xs], f of no effect -/
theorem comp_seq {α : Type} {c : EM} {te : EM} {e : En} {st : Sto} {v : Nat} {d : D} {xs : List α} (mk : α → D) (f : α → D) (h : c e st = .ok d st) (hd : seqv st d = some (xs.map mk)) (hn : xs.length < 2 ^ 20) (ht : ∀ x ∈ xs, te ((wipeE e [v]).set v (some (mk x))) st = .ok (f x) st) :
    mComp false (iSeq c) (gN v) [v] tYesM te e st = .ok (.fl (xs.map f)) st := by
  obtain ⟨g, hw, hg⟩ : ∃ g, walkD d st = .ok (xs.map mk, g) st ∧ grdOk g st := by
    cases d with
    | tup ys => cases hd; exact ⟨none, rfl, trivial⟩
    | fl ys => cases hd; exact ⟨none, rfl, trivial⟩
    | rl ys => cases hd; exact ⟨none, rfl, trivial⟩
    | ref n =>
      unfold seqv lstv lsts at hd
      cases q : st[n]? with
      | none => simp only [q] at hd; cases hd
      | some o =>
        simp only [q] at hd
        cases o with
        | lst zs =>
          cases hd
          refine ⟨some (n, _), ?_, q⟩
          unfold walkD
          simp only [q]
        | _ => cases hd
    | _ => cases hd
  have hc := cRun_all (g := gN v) (te := te) (gd := g) (env := wipeE e [v]) (st := st) mk f hg (xs := xs) (fun x hx => ⟨_, rfl, ht x hx⟩) (by rw [sizeV]; omega)
  rw [x_comp, x_iseq, h, bind_ok, hw, bind_ok]
  show (match cRun (gN v) tYesM te g (wipeE e [v]) [] _ st with
    | some (acc, st2) => mkL false acc st2
    | none => .bad) = _
  rw [hc]
  rfl
theorem getD_at {α : Type} {l : List α} {s : Nat} {d : α} (h : s < l.length) : l.getD s d = l[s] := by
  rw [List.getD_eq_getElem?_getD, List.getElem?_eq_getElem h]; rfl
/-- a valid machine -/
structure Mach (c : Nat) (ss : List (List Int)) : Prop where
  c0 : 0 < c
  ne : 0 < ss.length
  row : ∀ r ∈ ss, r.length = c
  ok : ∀ r ∈ ss, ∀ i ∈ r, 0 ≤ i ∧ i < ss.length
def rowsD (ss : List (List Int)) : List D := ss.map fun r => .fl (r.map .int)
section
variable {rest st : Sto}
theorem columns_ok {R : Sto} {k m n : Nat} {ps : List (D × List Int)} (h : Dr R st) (hm : R[m]? = some (.lst (ps.map (·.1)))) (hp : ps ≠ []) (hc : ∀ p ∈ ps, Col R k p.1 p.2 ∧ p.2.length = n) (hn : n < 2 ^ 20) (hl : ps.length < 2 ^ 20) :
    F__law_columns [.ref (m + 2)] st = .ok (.fl (rowsD ((List.range n).map fun s => ps.map fun p => p.2.getD s 0))) st := by
  have hr : seqv st (.ref (m + 2)) = some (ps.map (·.1)) := seqv_ref (by rw [h.get]; exact hm)
  have z : ∃ d st', fnM 3 1 b__law_columns [.ref (m + 2)] st = .ok d st' ∧ d = .fl (rowsD ((List.range n).map fun s => ps.map fun p => p.2.getD s 0)) ∧ st' = st := by
    refine fn_of [some (.ref (m + 2)), none, none] rfl rfl ?_
    unfold b__law_columns
    obtain ⟨p, r, rfl⟩ := List.exists_cons_of_ne_nil hp
    have h0 := hc p List.mem_cons_self
    have i0 : fIxA (.ref (m + 2)) (.int 0) st = .ok p.1 st := ix_nat (i := 0) hr rfl
    refine sp_ret (comp_rgD (n := n) (fun s => .fl (((p :: r).map fun p => p.2.getD s 0).map .int)) (by (simp only [bind_exc, toS_exc, seq_exc, seq_rt, x_var, x_c, x_bin, x_un, x_fn, x_bm, x_tst, x_notT, x_andT, x_orT, x_if, x_not, x_and, x_or, x_nil, x_cons, x_star, x_tup, x_lst, x_call, x_sl, x_oN, x_oS, x_lrg, x_trg, x_iseq, x_enum, x_zip, x_yes, x_mk, x_mt, x_fld, x_snil, x_set, x_ret, x_sif, x_drop, x_raise, x_asg, x_par, x_asgH, x_hsub, x_sfld, bind_ok, toS_ok, seq_nx, opt_ok, sel_0, sel_1, sel_2, sel_3, sel_nil, mkL_f, mkL_t, f_int, f_add, f_eqI, f_neI, f_abs, f_i1, f_max2, f_min2, f_neg, List.getElem?_cons_succ, List.getElem?_cons_zero, List.set_cons_succ, List.set_cons_zero, List.length_cons, List.length_nil, List.cons_append, List.nil_append, List.map_cons, List.map_nil, List.zip_cons_cons, List.zip_nil_left, List.zip_nil_right, List.foldl_cons, List.foldl_nil, szl, ite_true, ite_false, Nat.zero_add, Nat.reduceAdd, Nat.reduceSub, ↓reduceIte, and_self, and_true, true_and, Bool.not_true, Bool.not_false, Bool.not_not, Bool.false_eq_true, reduceCtorEq, gN, gT, gsNil, gsCons, hName, hTup, hsNil, hsCons, Option.bind_some, Option.map_some, partO, seqv_tup, seqv_fl, decide_true, decide_false, Nat.reduceLeDiff, i0, len_of (h0.1.seqv h), List.length_map, h0.2]; try rfl)) hn (fun s hs => ?_)) ?_
    · rw [List.map_map]
      refine comp_seq (fun p => p.1) (fun p : D × List Int => .int (p.2.getD s 0)) (by (simp only [bind_exc, toS_exc, seq_exc, seq_rt, x_var, x_c, x_bin, x_un, x_fn, x_bm, x_tst, x_notT, x_andT, x_orT, x_if, x_not, x_and, x_or, x_nil, x_cons, x_star, x_tup, x_lst, x_call, x_sl, x_oN, x_oS, x_lrg, x_trg, x_iseq, x_enum, x_zip, x_yes, x_mk, x_mt, x_fld, x_snil, x_set, x_ret, x_sif, x_drop, x_raise, x_asg, x_par, x_asgH, x_hsub, x_sfld, bind_ok, toS_ok, seq_nx, opt_ok, sel_0, sel_1, sel_2, sel_3, sel_nil, mkL_f, mkL_t, f_int, f_add, f_eqI, f_neI, f_abs, f_i1, f_max2, f_min2, f_neg, List.getElem?_cons_succ, List.getElem?_cons_zero, List.set_cons_succ, List.set_cons_zero, List.length_cons, List.length_nil, List.cons_append, List.nil_append, List.map_cons, List.map_nil, List.zip_cons_cons, List.zip_nil_left, List.zip_nil_right, List.foldl_cons, List.foldl_nil, szl, ite_true, ite_false, Nat.zero_add, Nat.reduceAdd, Nat.reduceSub, ↓reduceIte, and_self, and_true, true_and, Bool.not_true, Bool.not_false, Bool.not_not, Bool.false_eq_true, reduceCtorEq, gN, gT, gsNil, gsCons, hName, hTup, hsNil, hsCons, Option.bind_some, Option.map_some, partO, seqv_tup, seqv_fl, decide_true, decide_false, Nat.reduceLeDiff, wipeE]; try rfl)) hr hl (fun q hq => ?_)
      have hq2 := hc q hq
      have : fIxA q.1 (.int (s : Int)) st = .ok (.int (q.2.getD s 0)) st := ix_nat (hq2.1.seqv h) (by
        have : s < q.2.length := by omega
        rw [List.getElem?_map, List.getElem?_eq_getElem this, getD_at this]; rfl)
      (simp only [bind_exc, toS_exc, seq_exc, seq_rt, x_var, x_c, x_bin, x_un, x_fn, x_bm, x_tst, x_notT, x_andT, x_orT, x_if, x_not, x_and, x_or, x_nil, x_cons, x_star, x_tup, x_lst, x_call, x_sl, x_oN, x_oS, x_lrg, x_trg, x_iseq, x_enum, x_zip, x_yes, x_mk, x_mt, x_fld, x_snil, x_set, x_ret, x_sif, x_drop, x_raise, x_asg, x_par, x_asgH, x_hsub, x_sfld, bind_ok, toS_ok, seq_nx, opt_ok, sel_0, sel_1, sel_2, sel_3, sel_nil, mkL_f, mkL_t, f_int, f_add, f_eqI, f_neI, f_abs, f_i1, f_max2, f_min2, f_neg, List.getElem?_cons_succ, List.getElem?_cons_zero, List.set_cons_succ, List.set_cons_zero, List.length_cons, List.length_nil, List.cons_append, List.nil_append, List.map_cons, List.map_nil, List.zip_cons_cons, List.zip_nil_left, List.zip_nil_right, List.foldl_cons, List.foldl_nil, szl, ite_true, ite_false, Nat.zero_add, Nat.reduceAdd, Nat.reduceSub, ↓reduceIte, and_self, and_true, true_and, Bool.not_true, Bool.not_false, Bool.not_not, Bool.false_eq_true, reduceCtorEq, gN, gT, gsNil, gsCons, hName, hTup, hsNil, hsCons, Option.bind_some, Option.map_some, partO, seqv_tup, seqv_fl, decide_true, decide_false, Nat.reduceLeDiff, wipeE, this]; try rfl)
    · refine ⟨_, _, gcD_same rfl, ?_, rfl⟩
      unfold rowsD
      rw [List.map_map]
      rfl
  obtain ⟨d, st', h1, rfl, rfl⟩ := z
  exact h1
theorem mach_cols {ps : List (D × List Int)} {n : Nat} (hp : ps ≠ []) (hn : 0 < n) (hl : ∀ p ∈ ps, p.2.length = n) (ho : ∀ p ∈ ps, ∀ i ∈ p.2, 0 ≤ i ∧ i < n) : Mach ps.length ((List.range n).map fun s => ps.map fun p => p.2.getD s 0) where
  c0 := List.length_pos_iff.mpr hp
  ne := by rw [List.length_map, List.length_range]; exact hn
  row := fun r hr => by
    obtain ⟨s, _, rfl⟩ := List.mem_map.mp hr
    rw [List.length_map]
  ok := fun r hr i hi => by
    obtain ⟨s, hs, rfl⟩ := List.mem_map.mp hr
    obtain ⟨p, hp, rfl⟩ := List.mem_map.mp hi
    have hs' : s < p.2.length := by rw [hl p hp]; simpa using hs
    rw [List.length_map, List.length_range, getD_at hs']
    exact ho p hp _ (List.getElem_mem hs')
theorem getEl {α : Type} {l : List α} {P : α → Prop} (h : ∀ x ∈ l, P x) {x : α} (hx : x ∈ l) : P x := h x hx
theorem machine_ok {most : Int} (h : Dr rest st) (hw : wf (rest.length + 2) rest) (h0 : 0 < most) (h1 : most < 2 ^ 18) : ∃ c ss st', F__law_machine [.ref 1, .int most] st = .ok (.tup [.int (c : Nat), .fl (rowsD ss)]) st' ∧ Dr rest st' ∧ Mach c ss ∧ c ≤ 3 ∧ (ss.length : Int) ≤ most := by
  have z : ∃ d st', fnM 11 2 b__law_machine [.ref 1, .int most] st = .ok d st' ∧ ∃ c ss, d = .tup [.int (c : Nat), .fl (rowsD ss)] ∧ Dr rest st' ∧ Mach c ss ∧ c ≤ 3 ∧ (ss.length : Int) ≤ most := by
    refine fn_of [some (.ref 1), some (.int most), none, none, none, none, none, none, none, none, none] rfl rfl ?_
    unfold b__law_machine
    obtain ⟨form, st1, a1, a2, a3, a4⟩ := any_ok h (show (0 : Int) < 12 by omega) (by omega)
    obtain ⟨cm, st2, b1, b2, b3⟩ := of_ok (x := .fl [.int 1, .int 2, .int 2, .int 2, .int 3]) (ys := [.int 1, .int 2, .int 2, .int 2, .int 3]) a4 (fun _ _ => rfl) (by simp) (by simp)
    obtain ⟨c, rfl, c0, c3⟩ : ∃ c : Nat, cm = .int (c : Nat) ∧ 0 < c ∧ c ≤ 3 := by
      simp only [List.mem_cons, List.not_mem_nil, or_false] at b2
      rcases b2 with rfl | rfl | rfl | rfl | rfl
      · exact ⟨1, rfl, by omega, by omega⟩
      · exact ⟨2, rfl, by omega, by omega⟩
      · exact ⟨2, rfl, by omega, by omega⟩
      · exact ⟨2, rfl, by omega, by omega⟩
      · exact ⟨3, rfl, by omega, by omega⟩
    refine sp_step (e1 := [some (.ref 1), some (.int most), some (.int form), some (.int (c : Nat)), none, none, none, none, none, none, none]) (st1 := st2) (by (simp only [bind_exc, toS_exc, seq_exc, seq_rt, x_var, x_c, x_bin, x_un, x_fn, x_bm, x_tst, x_notT, x_andT, x_orT, x_if, x_not, x_and, x_or, x_nil, x_cons, x_star, x_tup, x_lst, x_call, x_sl, x_oN, x_oS, x_lrg, x_trg, x_iseq, x_enum, x_zip, x_yes, x_mk, x_mt, x_fld, x_snil, x_set, x_ret, x_sif, x_drop, x_raise, x_asg, x_par, x_asgH, x_hsub, x_sfld, bind_ok, toS_ok, seq_nx, opt_ok, sel_0, sel_1, sel_2, sel_3, sel_nil, mkL_f, mkL_t, f_int, f_add, f_eqI, f_neI, f_abs, f_i1, f_max2, f_min2, f_neg, List.getElem?_cons_succ, List.getElem?_cons_zero, List.set_cons_succ, List.set_cons_zero, List.length_cons, List.length_nil, List.cons_append, List.nil_append, List.map_cons, List.map_nil, List.zip_cons_cons, List.zip_nil_left, List.zip_nil_right, List.foldl_cons, List.foldl_nil, szl, ite_true, ite_false, Nat.zero_add, Nat.reduceAdd, Nat.reduceSub, ↓reduceIte, and_self, and_true, true_and, Bool.not_true, Bool.not_false, Bool.not_not, Bool.false_eq_true, reduceCtorEq, gN, gT, gsNil, gsCons, hName, hTup, hsNil, hsCons, Option.bind_some, Option.map_some, partO, seqv_tup, seqv_fl, decide_true, decide_false, Nat.reduceLeDiff, a1, b1]; try rfl)) ?_
    have cut : ∀ {cc : Nat} {ss : List (List Int)} {st3 : Sto}, Dr rest st3 → Mach cc ss → cc ≤ 3 → (ss.length : Int) ≤ most → ∃ d' st'', gcD st.length (.tup [.int (cc : Nat), .fl (rowsD ss)]) st3 = .ok d' st'' ∧ ∃ c ss, d' = .tup [.int (c : Nat), .fl (rowsD ss)] ∧ Dr rest st'' ∧ Mach c ss ∧ c ≤ 3 ∧ (ss.length : Int) ≤ most := fun {cc ss st3} hd hm hc hs => ⟨_, _, gcD_same (by rw [hd.len, h.len]), cc, ss, rfl, hd, hm, hc, hs⟩
    by_cases f10 : form = 10 ∧ 3 < most
    · refine sp_leave (st1 := st2) (by (simp only [bind_exc, toS_exc, seq_exc, seq_rt, x_var, x_c, x_bin, x_un, x_fn, x_bm, x_tst, x_notT, x_andT, x_orT, x_if, x_not, x_and, x_or, x_nil, x_cons, x_star, x_tup, x_lst, x_call, x_sl, x_oN, x_oS, x_lrg, x_trg, x_iseq, x_enum, x_zip, x_yes, x_mk, x_mt, x_fld, x_snil, x_set, x_ret, x_sif, x_drop, x_raise, x_asg, x_par, x_asgH, x_hsub, x_sfld, bind_ok, toS_ok, seq_nx, opt_ok, sel_0, sel_1, sel_2, sel_3, sel_nil, mkL_f, mkL_t, f_int, f_add, f_eqI, f_neI, f_abs, f_i1, f_max2, f_min2, f_neg, List.getElem?_cons_succ, List.getElem?_cons_zero, List.set_cons_succ, List.set_cons_zero, List.length_cons, List.length_nil, List.cons_append, List.nil_append, List.map_cons, List.map_nil, List.zip_cons_cons, List.zip_nil_left, List.zip_nil_right, List.foldl_cons, List.foldl_nil, szl, ite_true, ite_false, Nat.zero_add, Nat.reduceAdd, Nat.reduceSub, ↓reduceIte, and_self, and_true, true_and, Bool.not_true, Bool.not_false, Bool.not_not, Bool.false_eq_true, reduceCtorEq, gN, gT, gsNil, gsCons, hName, hTup, hsNil, hsCons, Option.bind_some, Option.map_some, partO, seqv_tup, seqv_fl, decide_true, decide_false, Nat.reduceLeDiff, decide_eq_true f10.1, decide_eq_true f10.2]; try rfl)) ?_
      refine sp_ret (d := .tup [.int (2 : Nat), .fl (rowsD [[0, 1], [2, 3], [0, 1], [2, 3]])]) (st1 := st2) (by (simp only [bind_exc, toS_exc, seq_exc, seq_rt, x_var, x_c, x_bin, x_un, x_fn, x_bm, x_tst, x_notT, x_andT, x_orT, x_if, x_not, x_and, x_or, x_nil, x_cons, x_star, x_tup, x_lst, x_call, x_sl, x_oN, x_oS, x_lrg, x_trg, x_iseq, x_enum, x_zip, x_yes, x_mk, x_mt, x_fld, x_snil, x_set, x_ret, x_sif, x_drop, x_raise, x_asg, x_par, x_asgH, x_hsub, x_sfld, bind_ok, toS_ok, seq_nx, opt_ok, sel_0, sel_1, sel_2, sel_3, sel_nil, mkL_f, mkL_t, f_int, f_add, f_eqI, f_neI, f_abs, f_i1, f_max2, f_min2, f_neg, List.getElem?_cons_succ, List.getElem?_cons_zero, List.set_cons_succ, List.set_cons_zero, List.length_cons, List.length_nil, List.cons_append, List.nil_append, List.map_cons, List.map_nil, List.zip_cons_cons, List.zip_nil_left, List.zip_nil_right, List.foldl_cons, List.foldl_nil, szl, ite_true, ite_false, Nat.zero_add, Nat.reduceAdd, Nat.reduceSub, ↓reduceIte, and_self, and_true, true_and, Bool.not_true, Bool.not_false, Bool.not_not, Bool.false_eq_true, reduceCtorEq, gN, gT, gsNil, gsCons, hName, hTup, hsNil, hsCons, Option.bind_some, Option.map_some, partO, seqv_tup, seqv_fl, decide_true, decide_false, Nat.reduceLeDiff]; try rfl)) (cut b3 ⟨by decide, by decide, by decide, by decide⟩ (by decide) (by simp only [List.length_cons, List.length_nil]; omega))
    refine sp_skip (st1 := st2) (by
      by_cases q1 : form = 10
      · (simp only [bind_exc, toS_exc, seq_exc, seq_rt, x_var, x_c, x_bin, x_un, x_fn, x_bm, x_tst, x_notT, x_andT, x_orT, x_if, x_not, x_and, x_or, x_nil, x_cons, x_star, x_tup, x_lst, x_call, x_sl, x_oN, x_oS, x_lrg, x_trg, x_iseq, x_enum, x_zip, x_yes, x_mk, x_mt, x_fld, x_snil, x_set, x_ret, x_sif, x_drop, x_raise, x_asg, x_par, x_asgH, x_hsub, x_sfld, bind_ok, toS_ok, seq_nx, opt_ok, sel_0, sel_1, sel_2, sel_3, sel_nil, mkL_f, mkL_t, f_int, f_add, f_eqI, f_neI, f_abs, f_i1, f_max2, f_min2, f_neg, List.getElem?_cons_succ, List.getElem?_cons_zero, List.set_cons_succ, List.set_cons_zero, List.length_cons, List.length_nil, List.cons_append, List.nil_append, List.map_cons, List.map_nil, List.zip_cons_cons, List.zip_nil_left, List.zip_nil_right, List.foldl_cons, List.foldl_nil, szl, ite_true, ite_false, Nat.zero_add, Nat.reduceAdd, Nat.reduceSub, ↓reduceIte, and_self, and_true, true_and, Bool.not_true, Bool.not_false, Bool.not_not, Bool.false_eq_true, reduceCtorEq, gN, gT, gsNil, gsCons, hName, hTup, hsNil, hsCons, Option.bind_some, Option.map_some, partO, seqv_tup, seqv_fl, decide_true, decide_false, Nat.reduceLeDiff, decide_eq_true q1, decide_eq_false (show ¬ 3 < most from fun q2 => f10 ⟨q1, q2⟩)]; try rfl)
      · (simp only [bind_exc, toS_exc, seq_exc, seq_rt, x_var, x_c, x_bin, x_un, x_fn, x_bm, x_tst, x_notT, x_andT, x_orT, x_if, x_not, x_and, x_or, x_nil, x_cons, x_star, x_tup, x_lst, x_call, x_sl, x_oN, x_oS, x_lrg, x_trg, x_iseq, x_enum, x_zip, x_yes, x_mk, x_mt, x_fld, x_snil, x_set, x_ret, x_sif, x_drop, x_raise, x_asg, x_par, x_asgH, x_hsub, x_sfld, bind_ok, toS_ok, seq_nx, opt_ok, sel_0, sel_1, sel_2, sel_3, sel_nil, mkL_f, mkL_t, f_int, f_add, f_eqI, f_neI, f_abs, f_i1, f_max2, f_min2, f_neg, List.getElem?_cons_succ, List.getElem?_cons_zero, List.set_cons_succ, List.set_cons_zero, List.length_cons, List.length_nil, List.cons_append, List.nil_append, List.map_cons, List.map_nil, List.zip_cons_cons, List.zip_nil_left, List.zip_nil_right, List.foldl_cons, List.foldl_nil, szl, ite_true, ite_false, Nat.zero_add, Nat.reduceAdd, Nat.reduceSub, ↓reduceIte, and_self, and_true, true_and, Bool.not_true, Bool.not_false, Bool.not_not, Bool.false_eq_true, reduceCtorEq, gN, gT, gsNil, gsCons, hName, hTup, hsNil, hsCons, Option.bind_some, Option.map_some, partO, seqv_tup, seqv_fl, decide_true, decide_false, Nat.reduceLeDiff, decide_eq_false q1]; try rfl)) ?_
    by_cases f11 : form = 11 ∧ 3 < most
    · refine sp_leave (st1 := st2) (by (simp only [bind_exc, toS_exc, seq_exc, seq_rt, x_var, x_c, x_bin, x_un, x_fn, x_bm, x_tst, x_notT, x_andT, x_orT, x_if, x_not, x_and, x_or, x_nil, x_cons, x_star, x_tup, x_lst, x_call, x_sl, x_oN, x_oS, x_lrg, x_trg, x_iseq, x_enum, x_zip, x_yes, x_mk, x_mt, x_fld, x_snil, x_set, x_ret, x_sif, x_drop, x_raise, x_asg, x_par, x_asgH, x_hsub, x_sfld, bind_ok, toS_ok, seq_nx, opt_ok, sel_0, sel_1, sel_2, sel_3, sel_nil, mkL_f, mkL_t, f_int, f_add, f_eqI, f_neI, f_abs, f_i1, f_max2, f_min2, f_neg, List.getElem?_cons_succ, List.getElem?_cons_zero, List.set_cons_succ, List.set_cons_zero, List.length_cons, List.length_nil, List.cons_append, List.nil_append, List.map_cons, List.map_nil, List.zip_cons_cons, List.zip_nil_left, List.zip_nil_right, List.foldl_cons, List.foldl_nil, szl, ite_true, ite_false, Nat.zero_add, Nat.reduceAdd, Nat.reduceSub, ↓reduceIte, and_self, and_true, true_and, Bool.not_true, Bool.not_false, Bool.not_not, Bool.false_eq_true, reduceCtorEq, gN, gT, gsNil, gsCons, hName, hTup, hsNil, hsCons, Option.bind_some, Option.map_some, partO, seqv_tup, seqv_fl, decide_true, decide_false, Nat.reduceLeDiff, decide_eq_true f11.1, decide_eq_true f11.2]; try rfl)) ?_
      obtain ⟨one, st3, g1, g2, g3, g4⟩ := any_ok b3 (show (0 : Int) < 2 by omega) (by omega)
      obtain ⟨ot, st4, k1, k2, k3⟩ := of_ok (x := .fl [.int 1, .int 3]) (ys := [.int 1, .int 3]) g4 (fun _ _ => rfl) (by simp) (by simp)
      obtain ⟨o, rfl, o0, o3⟩ : ∃ c : Int, ot = .int c ∧ 0 < c ∧ c ≤ 3 := by
        simp only [List.mem_cons, List.not_mem_nil, or_false] at k2
        rcases k2 with rfl | rfl
        · exact ⟨1, rfl, by omega, by omega⟩
        · exact ⟨3, rfl, by omega, by omega⟩
      refine sp_step (e1 := [some (.ref 1), some (.int most), some (.int form), some (.int (c : Nat)), some (.int one), some (.int o), none, none, none, none, none]) (st1 := st4) (by (simp only [bind_exc, toS_exc, seq_exc, seq_rt, x_var, x_c, x_bin, x_un, x_fn, x_bm, x_tst, x_notT, x_andT, x_orT, x_if, x_not, x_and, x_or, x_nil, x_cons, x_star, x_tup, x_lst, x_call, x_sl, x_oN, x_oS, x_lrg, x_trg, x_iseq, x_enum, x_zip, x_yes, x_mk, x_mt, x_fld, x_snil, x_set, x_ret, x_sif, x_drop, x_raise, x_asg, x_par, x_asgH, x_hsub, x_sfld, bind_ok, toS_ok, seq_nx, opt_ok, sel_0, sel_1, sel_2, sel_3, sel_nil, mkL_f, mkL_t, f_int, f_add, f_eqI, f_neI, f_abs, f_i1, f_max2, f_min2, f_neg, List.getElem?_cons_succ, List.getElem?_cons_zero, List.set_cons_succ, List.set_cons_zero, List.length_cons, List.length_nil, List.cons_append, List.nil_append, List.map_cons, List.map_nil, List.zip_cons_cons, List.zip_nil_left, List.zip_nil_right, List.foldl_cons, List.foldl_nil, szl, ite_true, ite_false, Nat.zero_add, Nat.reduceAdd, Nat.reduceSub, ↓reduceIte, and_self, and_true, true_and, Bool.not_true, Bool.not_false, Bool.not_not, Bool.false_eq_true, reduceCtorEq, gN, gT, gsNil, gsCons, hName, hTup, hsNil, hsCons, Option.bind_some, Option.map_some, partO, seqv_tup, seqv_fl, decide_true, decide_false, Nat.reduceLeDiff, g1, k1]; try rfl)) ?_
      let f : Nat → List Int := fun s => [2 * ((s : Int) / 2) + one, if (s : Int) % 2 = 0 then ((s : Int) + o) % 4 else ((s : Int) + 2) % 4]
      refine sp_ret (d := .tup [.int (2 : Nat), .fl (rowsD ((List.range 4).map f))]) (st1 := st4) (by
        have lt2 : (2 : Int) < 2 ^ 63 := by omega
        have := comp_rgD (c := mC (.int 4)) (te := mLst false (aCons (mBin (fAdd false) (mBin (fMul false) (mC (.int 2)) (mBin fDiv (mVar 10) (mC (.int 2)))) (mVar 4)) (aCons (mIf (mTst (mBin (fEq false) (mBin fMod (mVar 10) (mC (.int 2))) (mC (.int 0)))) (mBin fMod (mFn fInt1 (aCons (mBin (fAdd false) (mVar 10) (mVar 5)) aNil)) (mC (.int 4))) (mBin fMod (mFn fInt1 (aCons (mBin (fAdd false) (mVar 10) (mC (.int 2))) aNil)) (mC (.int 4)))) aNil))) (e := [some (.ref 1), some (.int most), some (.int form), some (.int (c : Nat)), some (.int one), some (.int o), none, none, none, none, none]) (st := st4) (v := 10) (n := 4) (fun s => .fl ((f s).map .int)) rfl (by omega) (fun s hs => by
          have md : ∀ st, fMul false (.int 2) (.int ((s : Int) / 2)) st = .ok (.int (2 * ((s : Int) / 2))) st := fun st => f_mul (by omega) lt2 (by omega) (by omega)
          by_cases q : (s : Int) % 2 = 0
          · (simp only [bind_exc, toS_exc, seq_exc, seq_rt, x_var, x_c, x_bin, x_un, x_fn, x_bm, x_tst, x_notT, x_andT, x_orT, x_if, x_not, x_and, x_or, x_nil, x_cons, x_star, x_tup, x_lst, x_call, x_sl, x_oN, x_oS, x_lrg, x_trg, x_iseq, x_enum, x_zip, x_yes, x_mk, x_mt, x_fld, x_snil, x_set, x_ret, x_sif, x_drop, x_raise, x_asg, x_par, x_asgH, x_hsub, x_sfld, bind_ok, toS_ok, seq_nx, opt_ok, sel_0, sel_1, sel_2, sel_3, sel_nil, mkL_f, mkL_t, f_int, f_add, f_eqI, f_neI, f_abs, f_i1, f_max2, f_min2, f_neg, List.getElem?_cons_succ, List.getElem?_cons_zero, List.set_cons_succ, List.set_cons_zero, List.length_cons, List.length_nil, List.cons_append, List.nil_append, List.map_cons, List.map_nil, List.zip_cons_cons, List.zip_nil_left, List.zip_nil_right, List.foldl_cons, List.foldl_nil, szl, ite_true, ite_false, Nat.zero_add, Nat.reduceAdd, Nat.reduceSub, ↓reduceIte, and_self, and_true, true_and, Bool.not_true, Bool.not_false, Bool.not_not, Bool.false_eq_true, reduceCtorEq, gN, gT, gsNil, gsCons, hName, hTup, hsNil, hsCons, Option.bind_some, Option.map_some, partO, seqv_tup, seqv_fl, decide_true, decide_false, Nat.reduceLeDiff, wipeE, f_div (show (0 : Int) < 2 by omega) lt2, f_mod (show (0 : Int) < 2 by omega), f_mod (show (0 : Int) < 4 by omega), md, decide_eq_true q, f, if_pos q]; try rfl)
          · (simp only [bind_exc, toS_exc, seq_exc, seq_rt, x_var, x_c, x_bin, x_un, x_fn, x_bm, x_tst, x_notT, x_andT, x_orT, x_if, x_not, x_and, x_or, x_nil, x_cons, x_star, x_tup, x_lst, x_call, x_sl, x_oN, x_oS, x_lrg, x_trg, x_iseq, x_enum, x_zip, x_yes, x_mk, x_mt, x_fld, x_snil, x_set, x_ret, x_sif, x_drop, x_raise, x_asg, x_par, x_asgH, x_hsub, x_sfld, bind_ok, toS_ok, seq_nx, opt_ok, sel_0, sel_1, sel_2, sel_3, sel_nil, mkL_f, mkL_t, f_int, f_add, f_eqI, f_neI, f_abs, f_i1, f_max2, f_min2, f_neg, List.getElem?_cons_succ, List.getElem?_cons_zero, List.set_cons_succ, List.set_cons_zero, List.length_cons, List.length_nil, List.cons_append, List.nil_append, List.map_cons, List.map_nil, List.zip_cons_cons, List.zip_nil_left, List.zip_nil_right, List.foldl_cons, List.foldl_nil, szl, ite_true, ite_false, Nat.zero_add, Nat.reduceAdd, Nat.reduceSub, ↓reduceIte, and_self, and_true, true_and, Bool.not_true, Bool.not_false, Bool.not_not, Bool.false_eq_true, reduceCtorEq, gN, gT, gsNil, gsCons, hName, hTup, hsNil, hsCons, Option.bind_some, Option.map_some, partO, seqv_tup, seqv_fl, decide_true, decide_false, Nat.reduceLeDiff, wipeE, f_div (show (0 : Int) < 2 by omega) lt2, f_mod (show (0 : Int) < 2 by omega), f_mod (show (0 : Int) < 4 by omega), md, decide_eq_false q, f, if_neg q]; try rfl))
        (simp only [bind_exc, toS_exc, seq_exc, seq_rt, x_var, x_c, x_bin, x_un, x_fn, x_bm, x_tst, x_notT, x_andT, x_orT, x_if, x_not, x_and, x_or, x_nil, x_cons, x_star, x_tup, x_lst, x_call, x_sl, x_oN, x_oS, x_lrg, x_trg, x_iseq, x_enum, x_zip, x_yes, x_mk, x_mt, x_fld, x_snil, x_set, x_ret, x_sif, x_drop, x_raise, x_asg, x_par, x_asgH, x_hsub, x_sfld, bind_ok, toS_ok, seq_nx, opt_ok, sel_0, sel_1, sel_2, sel_3, sel_nil, mkL_f, mkL_t, f_int, f_add, f_eqI, f_neI, f_abs, f_i1, f_max2, f_min2, f_neg, List.getElem?_cons_succ, List.getElem?_cons_zero, List.set_cons_succ, List.set_cons_zero, List.length_cons, List.length_nil, List.cons_append, List.nil_append, List.map_cons, List.map_nil, List.zip_cons_cons, List.zip_nil_left, List.zip_nil_right, List.foldl_cons, List.foldl_nil, szl, ite_true, ite_false, Nat.zero_add, Nat.reduceAdd, Nat.reduceSub, ↓reduceIte, and_self, and_true, true_and, Bool.not_true, Bool.not_false, Bool.not_not, Bool.false_eq_true, reduceCtorEq, gN, gT, gsNil, gsCons, hName, hTup, hsNil, hsCons, Option.bind_some, Option.map_some, partO, seqv_tup, seqv_fl, decide_true, decide_false, Nat.reduceLeDiff, this, rowsD, List.map_map]; try rfl)) (cut k3 ⟨by decide, (by rw [List.length_map, List.length_range]; omega), ?_, ?_⟩ (by decide) (by rw [List.length_map, List.length_range]; omega))
      · intro r hr
        obtain ⟨s, _, rfl⟩ := List.mem_map.mp hr
        rfl
      · intro r hr i hi
        obtain ⟨s, hs, rfl⟩ := List.mem_map.mp hr
        have hs4 := List.mem_range.mp hs
        rw [List.length_map, List.length_range]
        simp only [f, List.mem_cons, List.not_mem_nil, or_false] at hi
        rcases hi with rfl | rfl
        · omega
        · split <;> omega
    refine sp_skip (st1 := st2) (by
      by_cases q1 : form = 11
      · (simp only [bind_exc, toS_exc, seq_exc, seq_rt, x_var, x_c, x_bin, x_un, x_fn, x_bm, x_tst, x_notT, x_andT, x_orT, x_if, x_not, x_and, x_or, x_nil, x_cons, x_star, x_tup, x_lst, x_call, x_sl, x_oN, x_oS, x_lrg, x_trg, x_iseq, x_enum, x_zip, x_yes, x_mk, x_mt, x_fld, x_snil, x_set, x_ret, x_sif, x_drop, x_raise, x_asg, x_par, x_asgH, x_hsub, x_sfld, bind_ok, toS_ok, seq_nx, opt_ok, sel_0, sel_1, sel_2, sel_3, sel_nil, mkL_f, mkL_t, f_int, f_add, f_eqI, f_neI, f_abs, f_i1, f_max2, f_min2, f_neg, List.getElem?_cons_succ, List.getElem?_cons_zero, List.set_cons_succ, List.set_cons_zero, List.length_cons, List.length_nil, List.cons_append, List.nil_append, List.map_cons, List.map_nil, List.zip_cons_cons, List.zip_nil_left, List.zip_nil_right, List.foldl_cons, List.foldl_nil, szl, ite_true, ite_false, Nat.zero_add, Nat.reduceAdd, Nat.reduceSub, ↓reduceIte, and_self, and_true, true_and, Bool.not_true, Bool.not_false, Bool.not_not, Bool.false_eq_true, reduceCtorEq, gN, gT, gsNil, gsCons, hName, hTup, hsNil, hsCons, Option.bind_some, Option.map_some, partO, seqv_tup, seqv_fl, decide_true, decide_false, Nat.reduceLeDiff, decide_eq_true q1, decide_eq_false (show ¬ 3 < most from fun q2 => f11 ⟨q1, q2⟩)]; try rfl)
      · (simp only [bind_exc, toS_exc, seq_exc, seq_rt, x_var, x_c, x_bin, x_un, x_fn, x_bm, x_tst, x_notT, x_andT, x_orT, x_if, x_not, x_and, x_or, x_nil, x_cons, x_star, x_tup, x_lst, x_call, x_sl, x_oN, x_oS, x_lrg, x_trg, x_iseq, x_enum, x_zip, x_yes, x_mk, x_mt, x_fld, x_snil, x_set, x_ret, x_sif, x_drop, x_raise, x_asg, x_par, x_asgH, x_hsub, x_sfld, bind_ok, toS_ok, seq_nx, opt_ok, sel_0, sel_1, sel_2, sel_3, sel_nil, mkL_f, mkL_t, f_int, f_add, f_eqI, f_neI, f_abs, f_i1, f_max2, f_min2, f_neg, List.getElem?_cons_succ, List.getElem?_cons_zero, List.set_cons_succ, List.set_cons_zero, List.length_cons, List.length_nil, List.cons_append, List.nil_append, List.map_cons, List.map_nil, List.zip_cons_cons, List.zip_nil_left, List.zip_nil_right, List.foldl_cons, List.foldl_nil, szl, ite_true, ite_false, Nat.zero_add, Nat.reduceAdd, Nat.reduceSub, ↓reduceIte, and_self, and_true, true_and, Bool.not_true, Bool.not_false, Bool.not_not, Bool.false_eq_true, reduceCtorEq, gN, gT, gsNil, gsCons, hName, hTup, hsNil, hsCons, Option.bind_some, Option.map_some, partO, seqv_tup, seqv_fl, decide_true, decide_false, Nat.reduceLeDiff, decide_eq_false q1]; try rfl)) ?_
    obtain ⟨mm, st3, g1, g2, g3, g4⟩ := any_ok b3 h0 (by omega)
    obtain ⟨n, hn⟩ : ∃ n : Nat, 1 + mm = n := ⟨(1 + mm).toNat, by omega⟩
    have n0 : 0 < n := by omega
    have n1 : n < 2 ^ 19 := by omega
    have d3 := g4.app [.lst []]
    refine sp_step (e1 := [some (.ref 1), some (.int most), some (.int form), some (.int (c : Nat)), none, none, some (.int n), some (.ref (rest.length + 2)), none, none, none]) (st1 := st3 ++ [.lst []]) (by (simp only [bind_exc, toS_exc, seq_exc, seq_rt, x_var, x_c, x_bin, x_un, x_fn, x_bm, x_tst, x_notT, x_andT, x_orT, x_if, x_not, x_and, x_or, x_nil, x_cons, x_star, x_tup, x_lst, x_call, x_sl, x_oN, x_oS, x_lrg, x_trg, x_iseq, x_enum, x_zip, x_yes, x_mk, x_mt, x_fld, x_snil, x_set, x_ret, x_sif, x_drop, x_raise, x_asg, x_par, x_asgH, x_hsub, x_sfld, bind_ok, toS_ok, seq_nx, opt_ok, sel_0, sel_1, sel_2, sel_3, sel_nil, mkL_f, mkL_t, f_int, f_add, f_eqI, f_neI, f_abs, f_i1, f_max2, f_min2, f_neg, List.getElem?_cons_succ, List.getElem?_cons_zero, List.set_cons_succ, List.set_cons_zero, List.length_cons, List.length_nil, List.cons_append, List.nil_append, List.map_cons, List.map_nil, List.zip_cons_cons, List.zip_nil_left, List.zip_nil_right, List.foldl_cons, List.foldl_nil, szl, ite_true, ite_false, Nat.zero_add, Nat.reduceAdd, Nat.reduceSub, ↓reduceIte, and_self, and_true, true_and, Bool.not_true, Bool.not_false, Bool.not_not, Bool.false_eq_true, reduceCtorEq, gN, gT, gsNil, gsCons, hName, hTup, hsNil, hsCons, Option.bind_some, Option.map_some, partO, seqv_tup, seqv_fl, decide_true, decide_false, Nat.reduceLeDiff, g1, hn, g4.len]; try rfl)) ?_
    refine sp_seq ?_
    rw [x_for, rg1_of (c := mVar 3) (j := (c : Int)) (st1 := st3 ++ [.lst []]) rfl (by omega) (by omega), toS_ok, Int.toNat_natCast]
    refine sp_run (I := fun i e st => ∃ x y, e = [some (.ref 1), some (.int most), some (.int form), some (.int (c : Nat)), none, none, some (.int n), some (.ref (rest.length + 2)), x, y, none] ∧ ∃ (ps : List (D × List Int)) (junk : Sto), ps.length = i ∧ Dr (rest ++ .lst (ps.map (·.1)) :: junk) st ∧ ∀ p ∈ ps, Col (rest ++ .lst (ps.map (·.1)) :: junk) (rest.length + 1) p.1 p.2 ∧ p.2.length = n ∧ ∀ i ∈ p.2, 0 ≤ i ∧ i < n) _ 0 ⟨_, _, rfl, [], [], rfl, d3, by simp⟩ ?_ ?_
    · rintro j d e st5 _ hd ⟨x, y, rfl, ps, junk, hj, p1, p2⟩
      have hjc : j < c := by
        have := (List.getElem?_eq_some_iff.mp hd).1
        rw [List.length_map, List.length_range] at this
        omega
      refine ⟨_, rfl, ?_⟩
      obtain ⟨kd, st6, t1, t2⟩ : ∃ (kd : Int) (st6 : Sto), mIf (mTst (mBin fGt (mVar 2) (mC (.int 7)))) (mCall F__law_any 2 0 [0, 1] (aCons (mVar 0) (aCons (mC (.int 8)) aNil)) aNil) (mVar 2) [some (.ref 1), some (.int most), some (.int form), some (.int (c : Nat)), none, none, some (.int n), some (.ref (rest.length + 2)), some d, y, none] st5 = .ok (.int kd) st6 ∧ Dr (rest ++ .lst (ps.map (·.1)) :: junk) st6 := by
        by_cases q : (7 : Int) < form
        · obtain ⟨r, st', r1, r2, r3, r4⟩ := any_ok p1 (show (0 : Int) < 8 by omega) (by omega)
          exact ⟨r, st', (by (simp only [bind_exc, toS_exc, seq_exc, seq_rt, x_var, x_c, x_bin, x_un, x_fn, x_bm, x_tst, x_notT, x_andT, x_orT, x_if, x_not, x_and, x_or, x_nil, x_cons, x_star, x_tup, x_lst, x_call, x_sl, x_oN, x_oS, x_lrg, x_trg, x_iseq, x_enum, x_zip, x_yes, x_mk, x_mt, x_fld, x_snil, x_set, x_ret, x_sif, x_drop, x_raise, x_asg, x_par, x_asgH, x_hsub, x_sfld, bind_ok, toS_ok, seq_nx, opt_ok, sel_0, sel_1, sel_2, sel_3, sel_nil, mkL_f, mkL_t, f_int, f_add, f_eqI, f_neI, f_abs, f_i1, f_max2, f_min2, f_neg, List.getElem?_cons_succ, List.getElem?_cons_zero, List.set_cons_succ, List.set_cons_zero, List.length_cons, List.length_nil, List.cons_append, List.nil_append, List.map_cons, List.map_nil, List.zip_cons_cons, List.zip_nil_left, List.zip_nil_right, List.foldl_cons, List.foldl_nil, szl, ite_true, ite_false, Nat.zero_add, Nat.reduceAdd, Nat.reduceSub, ↓reduceIte, and_self, and_true, true_and, Bool.not_true, Bool.not_false, Bool.not_not, Bool.false_eq_true, reduceCtorEq, gN, gT, gsNil, gsCons, hName, hTup, hsNil, hsCons, Option.bind_some, Option.map_some, partO, seqv_tup, seqv_fl, decide_true, decide_false, Nat.reduceLeDiff, decide_eq_true q, r1]; try rfl)), r4⟩
        · exact ⟨form, st5, (by (simp only [bind_exc, toS_exc, seq_exc, seq_rt, x_var, x_c, x_bin, x_un, x_fn, x_bm, x_tst, x_notT, x_andT, x_orT, x_if, x_not, x_and, x_or, x_nil, x_cons, x_star, x_tup, x_lst, x_call, x_sl, x_oN, x_oS, x_lrg, x_trg, x_iseq, x_enum, x_zip, x_yes, x_mk, x_mt, x_fld, x_snil, x_set, x_ret, x_sif, x_drop, x_raise, x_asg, x_par, x_asgH, x_hsub, x_sfld, bind_ok, toS_ok, seq_nx, opt_ok, sel_0, sel_1, sel_2, sel_3, sel_nil, mkL_f, mkL_t, f_int, f_add, f_eqI, f_neI, f_abs, f_i1, f_max2, f_min2, f_neg, List.getElem?_cons_succ, List.getElem?_cons_zero, List.set_cons_succ, List.set_cons_zero, List.length_cons, List.length_nil, List.cons_append, List.nil_append, List.map_cons, List.map_nil, List.zip_cons_cons, List.zip_nil_left, List.zip_nil_right, List.foldl_cons, List.foldl_nil, szl, ite_true, ite_false, Nat.zero_add, Nat.reduceAdd, Nat.reduceSub, ↓reduceIte, and_self, and_true, true_and, Bool.not_true, Bool.not_false, Bool.not_not, Bool.false_eq_true, reduceCtorEq, gN, gT, gsNil, gsCons, hName, hTup, hsNil, hsCons, Option.bind_some, Option.map_some, partO, seqv_tup, seqv_fl, decide_true, decide_false, Nat.reduceLeDiff, decide_eq_false q]; try rfl)), p1⟩
      refine sp_step (e1 := [some (.ref 1), some (.int most), some (.int form), some (.int (c : Nat)), none, none, some (.int n), some (.ref (rest.length + 2)), some d, some (.int kd), none]) (st1 := st6) (by
        rw [x_set]
        show (mIf _ _ _ [some (.ref 1), some (.int most), some (.int form), some (.int (c : Nat)), none, none, some (.int n), some (.ref (rest.length + 2)), some d, y, none] st5).toS _ _ = _
        rw [t1]; rfl) ?_
      obtain ⟨dc, cs, jk, st7, u1, u2, u3, u4, u5⟩ := column_ok (form := kd) t2 n0 n1
      rw [List.append_assoc, List.cons_append] at u2 u3
      have u6 := u2.set0 (o' := .lst (ps.map (·.1) ++ [dc]))
      refine sp_nx (e1 := [some (.ref 1), some (.int most), some (.int form), some (.int (c : Nat)), none, none, some (.int n), some (.ref (rest.length + 2)), some d, some (.int kd), none]) (st1 := st7.set (rest.length + 2) (.lst (ps.map (·.1) ++ [dc]))) (by
        (simp only [bind_exc, toS_exc, seq_exc, seq_rt, x_var, x_c, x_bin, x_un, x_fn, x_bm, x_tst, x_notT, x_andT, x_orT, x_if, x_not, x_and, x_or, x_nil, x_cons, x_star, x_tup, x_lst, x_call, x_sl, x_oN, x_oS, x_lrg, x_trg, x_iseq, x_enum, x_zip, x_yes, x_mk, x_mt, x_fld, x_snil, x_set, x_ret, x_sif, x_drop, x_raise, x_asg, x_par, x_asgH, x_hsub, x_sfld, bind_ok, toS_ok, seq_nx, opt_ok, sel_0, sel_1, sel_2, sel_3, sel_nil, mkL_f, mkL_t, f_int, f_add, f_eqI, f_neI, f_abs, f_i1, f_max2, f_min2, f_neg, List.getElem?_cons_succ, List.getElem?_cons_zero, List.set_cons_succ, List.set_cons_zero, List.length_cons, List.length_nil, List.cons_append, List.nil_append, List.map_cons, List.map_nil, List.zip_cons_cons, List.zip_nil_left, List.zip_nil_right, List.foldl_cons, List.foldl_nil, szl, ite_true, ite_false, Nat.zero_add, Nat.reduceAdd, Nat.reduceSub, ↓reduceIte, and_self, and_true, true_and, Bool.not_true, Bool.not_false, Bool.not_not, Bool.false_eq_true, reduceCtorEq, gN, gT, gsNil, gsCons, hName, hTup, hsNil, hsCons, Option.bind_some, Option.map_some, partO, seqv_tup, seqv_fl, decide_true, decide_false, Nat.reduceLeDiff, isL_ref t2.at0, u1, app_of u2.at0 (show (ps.map (·.1)).length < sizeLine by rw [List.length_map, sizeV]; omega)]; try rfl)) ?_
      refine ⟨_, _, rfl, ps ++ [(dc, cs)], junk ++ jk, by rw [List.length_append, List.length_singleton, hj], by rw [List.map_append]; exact u6, ?_⟩
      have up : ∀ {R : Sto} {o o' : MO} {j : Sto} {d : D} {cs : List Int}, Col (R ++ o :: j) (R.length + 1) d cs → Col (R ++ o' :: j) (R.length + 1) d cs := by
        rintro R o o' j d cs (rfl | ⟨n, hk, rfl, hn⟩)
        · exact .inl rfl
        · refine .inr ⟨n, hk, rfl, ?_⟩
          obtain ⟨q, rfl⟩ : ∃ q, n = R.length + (q + 1) := ⟨n - (R.length + 1), by omega⟩
          rw [List.getElem?_append_right (by omega), Nat.add_sub_cancel_left, List.getElem?_cons_succ] at hn ⊢
          exact hn
      intro p hp
      rcases List.mem_append.mp hp with hp | hp
      · obtain ⟨w1, w2⟩ := p2 p hp
        have := w1.app (l := jk)
        rw [List.append_assoc, List.cons_append] at this
        exact ⟨up this, w2⟩
      · rw [List.mem_singleton.mp hp]
        refine ⟨up (u3.le ?_), u4, u5⟩
        rw [List.length_append, List.length_cons]
        omega
    · rintro e st5 ⟨x, y, rfl, ps, junk, hj, p1, p2⟩
      rw [Nat.zero_add, List.length_map, List.length_range] at hj
      have hps : ps ≠ [] := by intro z; rw [z] at hj; simp at hj; omega
      have hcol := columns_ok (m := rest.length) (k := rest.length + 1) p1 at0 hps (fun p hp => ⟨(p2 p hp).1, (p2 p hp).2.1⟩) (show n < 2 ^ 20 by omega) (by omega)
      refine sp_ret (d := .tup [.int (c : Nat), .fl (rowsD ((List.range n).map fun s => ps.map fun p => p.2.getD s 0))]) (st1 := st5) (by (simp only [bind_exc, toS_exc, seq_exc, seq_rt, x_var, x_c, x_bin, x_un, x_fn, x_bm, x_tst, x_notT, x_andT, x_orT, x_if, x_not, x_and, x_or, x_nil, x_cons, x_star, x_tup, x_lst, x_call, x_sl, x_oN, x_oS, x_lrg, x_trg, x_iseq, x_enum, x_zip, x_yes, x_mk, x_mt, x_fld, x_snil, x_set, x_ret, x_sif, x_drop, x_raise, x_asg, x_par, x_asgH, x_hsub, x_sfld, bind_ok, toS_ok, seq_nx, opt_ok, sel_0, sel_1, sel_2, sel_3, sel_nil, mkL_f, mkL_t, f_int, f_add, f_eqI, f_neI, f_abs, f_i1, f_max2, f_min2, f_neg, List.getElem?_cons_succ, List.getElem?_cons_zero, List.set_cons_succ, List.set_cons_zero, List.length_cons, List.length_nil, List.cons_append, List.nil_append, List.map_cons, List.map_nil, List.zip_cons_cons, List.zip_nil_left, List.zip_nil_right, List.foldl_cons, List.foldl_nil, szl, ite_true, ite_false, Nat.zero_add, Nat.reduceAdd, Nat.reduceSub, ↓reduceIte, and_self, and_true, true_and, Bool.not_true, Bool.not_false, Bool.not_not, Bool.false_eq_true, reduceCtorEq, gN, gT, gsNil, gsCons, hName, hTup, hsNil, hsCons, Option.bind_some, Option.map_some, partO, seqv_tup, seqv_fl, decide_true, decide_false, Nat.reduceLeDiff, hcol]; try rfl)) ?_
      obtain ⟨st6, rfl, p3⟩ := p1.cut
      have hm := mach_cols hps n0 (fun p hp => (p2 p hp).2.1) (fun p hp => (p2 p hp).2.2)
      rw [hj] at hm
      refine ⟨_, _, gcD_cut (by rw [h.len, p3.len]) ?_ (p3.wf (by rw [h.len]; omega) (by rw [h.len]; exact hw)), c, _, rfl, p3, hm, c3, by rw [List.length_map, List.length_range]; omega⟩
      simp only [noRef, noRefs, noRefs_all, rowsD, List.all_map, Bool.and_true, Bool.true_and]
      refine List.all_eq_true.mpr fun r _ => ?_
      simp only [Function.comp, noRef, noRefs_ints]
  obtain ⟨d, st', h1, c, ss, rfl, h2, h3, h4, h5⟩ := z
  exact ⟨c, ss, st', h1, h2, h3, h4, h5⟩
end
end Mi

namespace Mi
open PySem L2 Dw
section
variable {n k : Nat} {c : SM} {ds : List D} {st st' : Sto} {e : En} {d : D} {o : Out D} {x : Str} {v : Option D}
theorem fn_rt (e0 : En) (hl : ds.length = k) (he : ds.map some ++ List.replicate (n - k) none = e0) (h : c e0 st = .rt d st') (hg : gcD st.length d st' = o) : fnM n k c ds st = o := by
  unfold fnM
  rw [if_pos hl, he, h]
  exact hg
theorem fn_nx (e0 : En) (hl : ds.length = k) (he : ds.map some ++ List.replicate (n - k) none = e0) (h : c e0 st = .nx e st') (hg : gcD st.length .non st' = o) : fnM n k c ds st = o := by
  unfold fnM
  rw [if_pos hl, he, h]
  exact hg
theorem fn_exc (e0 : En) (hl : ds.length = k) (he : ds.map some ++ List.replicate (n - k) none = e0) (h : c e0 st = .exc x v e st') (hg : gcX st.length x v st' = o) : fnM n k c ds st = o := by
  unfold fnM
  rw [if_pos hl, he, h]
  exact hg
end
section
variable {g : D → En → Option En} {b : SM} {d : D} {ds : List D} {e e1 e2 : En} {st st2 : Sto} {gd : Grd} {x : Str} {v : Option D}
theorem fRun_end (hg : grdOk gd st) : fRun g b gd [] e st = .nx e st := by rw [fRun, if_pos hg]
theorem fRun_nx (hg : grdOk gd st) (h : g d e = some e1) (hb : b e1 st = .nx e2 st2) : fRun g b gd (d :: ds) e st = fRun g b gd ds e2 st2 := by
  rw [fRun, if_pos hg]
  simp only [h]
  rw [hb]
theorem fRun_rt {r : D} (hg : grdOk gd st) (h : g d e = some e1) (hb : b e1 st = .rt r st2) : fRun g b gd (d :: ds) e st = .rt r st2 := by
  rw [fRun, if_pos hg]
  simp only [h]
  rw [hb]
theorem fRun_exc (hg : grdOk gd st) (h : g d e = some e1) (hb : b e1 st = .exc x v e2 st2) : fRun g b gd (d :: ds) e st = .exc x v e2 st2 := by
  rw [fRun, if_pos hg]
  simp only [h]
  rw [hb]
end
def slipD (p : Int × Int) : D := .tup [.int p.1, .int p.2]
/-- a valid heap, in order -/
structure Heap (c : Nat) (b : Int) (hs : List (Int × Int)) : Prop where
  asc : hs.Pairwise fun p q => p.1 < q.1
  ok : ∀ p ∈ hs, 0 ≤ p.1 ∧ p.1 < b ∧ 0 ≤ p.2 ∧ p.2 < c
theorem noRef_slip {k : Nat} {p : Int × Int} : noRef k (slipD p) = true := by simp only [slipD, noRef, noRefs, Bool.and_true]
theorem noRefs_slips {k : Nat} {hs : List (Int × Int)} : noRefs k (hs.map slipD) = true := by
  rw [noRefs_all, List.all_map]
  exact List.all_eq_true.mpr fun p _ => noRef_slip
section
variable {rest st : Sto}
theorem heap_ok {c n : Nat} (h : Dr rest st) (hw : wf (rest.length + 2) rest) (c0 : 0 < c) (c1 : c < 2 ^ 18) (n1 : n < 2 ^ 18) : ∃ hs st', F__law_heap [.ref 1, .int (c : Nat), .int (n : Nat)] st = .ok (.tup (hs.map slipD)) st' ∧ Dr rest st' ∧ Heap c (4 + 3 * n) hs ∧ hs.length = n := by
  have z : ∃ d st', fnM 6 3 b__law_heap [.ref 1, .int (c : Nat), .int (n : Nat)] st = .ok d st' ∧ ∃ hs, d = .tup (hs.map slipD) ∧ Dr rest st' ∧ Heap c (4 + 3 * n) hs ∧ hs.length = n := by
    refine fn_of [some (.ref 1), some (.int (c : Nat)), some (.int (n : Nat)), none, none, none] rfl rfl ?_
    unfold b__law_heap
    obtain ⟨t0, st1, a1, a2, a3, a4⟩ := any_ok h (show (0 : Int) < 4 by omega) (by omega)
    refine sp_step (e1 := [some (.ref 1), some (.int (c : Nat)), some (.int (n : Nat)), some (.int t0), some (.ref (rest.length + 2)), none]) (st1 := st1 ++ [.lst []]) (by (simp only [bind_exc, toS_exc, seq_exc, seq_rt, x_var, x_c, x_bin, x_un, x_fn, x_bm, x_tst, x_notT, x_andT, x_orT, x_if, x_not, x_and, x_or, x_nil, x_cons, x_star, x_tup, x_lst, x_call, x_sl, x_oN, x_oS, x_lrg, x_trg, x_iseq, x_enum, x_zip, x_yes, x_mk, x_mt, x_fld, x_snil, x_set, x_ret, x_sif, x_drop, x_raise, x_asg, x_par, x_asgH, x_hsub, x_sfld, bind_ok, toS_ok, seq_nx, opt_ok, sel_0, sel_1, sel_2, sel_3, sel_nil, mkL_f, mkL_t, f_int, f_add, f_eqI, f_neI, f_abs, f_i1, f_max2, f_min2, f_neg, List.getElem?_cons_succ, List.getElem?_cons_zero, List.set_cons_succ, List.set_cons_zero, List.length_cons, List.length_nil, List.cons_append, List.nil_append, List.map_cons, List.map_nil, List.zip_cons_cons, List.zip_nil_left, List.zip_nil_right, List.foldl_cons, List.foldl_nil, szl, ite_true, ite_false, Nat.zero_add, Nat.reduceAdd, Nat.reduceSub, ↓reduceIte, and_self, and_true, true_and, Bool.not_true, Bool.not_false, Bool.not_not, Bool.false_eq_true, reduceCtorEq, gN, gT, gsNil, gsCons, hName, hTup, hsNil, hsCons, Option.bind_some, Option.map_some, partO, seqv_tup, seqv_fl, decide_true, decide_false, Nat.reduceLeDiff, a1, a4.len]; try rfl)) ?_
    refine sp_seq ?_
    rw [x_for, rg1_of (c := mVar 2) (j := (n : Int)) (st1 := st1 ++ [.lst []]) rfl (by omega) (by omega), toS_ok, Int.toNat_natCast]
    refine sp_run (I := fun i e st => ∃ t x, e = [some (.ref 1), some (.int (c : Nat)), some (.int (n : Nat)), some (.int t), some (.ref (rest.length + 2)), x] ∧ ∃ (hs : List (Int × Int)), hs.length = i ∧ Dr (rest ++ [.lst (hs.map slipD)]) st ∧ 0 ≤ t ∧ t < 4 + 3 * i ∧ Heap c t hs) _ 0 ⟨_, _, rfl, [], rfl, a4.app [.lst []], a2, by omega, .nil, by simp⟩ ?_ ?_
    · rintro j d e st5 _ hd ⟨t, x, rfl, hs, hj, p1, p2, p3, p4⟩
      have hjc : j < n := by
        have := (List.getElem?_eq_some_iff.mp hd).1
        rw [List.length_map, List.length_range] at this
        omega
      refine ⟨_, rfl, ?_⟩
      obtain ⟨q, st6, b1, b2, b3, b4⟩ := any_ok p1 (show (0 : Int) < (c : Int) by omega) (by omega)
      have u6 := b4.set0 (o' := .lst (hs.map slipD ++ [slipD (t, q)]))
      obtain ⟨s, st7, k1, k2, k3, k4⟩ := any_ok u6 (show (0 : Int) < 3 by omega) (by omega)
      refine sp_step (e1 := [some (.ref 1), some (.int (c : Nat)), some (.int (n : Nat)), some (.int t), some (.ref (rest.length + 2)), some d]) (st1 := st6.set (rest.length + 2) (.lst (hs.map slipD ++ [slipD (t, q)]))) (by
        (simp only [bind_exc, toS_exc, seq_exc, seq_rt, x_var, x_c, x_bin, x_un, x_fn, x_bm, x_tst, x_notT, x_andT, x_orT, x_if, x_not, x_and, x_or, x_nil, x_cons, x_star, x_tup, x_lst, x_call, x_sl, x_oN, x_oS, x_lrg, x_trg, x_iseq, x_enum, x_zip, x_yes, x_mk, x_mt, x_fld, x_snil, x_set, x_ret, x_sif, x_drop, x_raise, x_asg, x_par, x_asgH, x_hsub, x_sfld, bind_ok, toS_ok, seq_nx, opt_ok, sel_0, sel_1, sel_2, sel_3, sel_nil, mkL_f, mkL_t, f_int, f_add, f_eqI, f_neI, f_abs, f_i1, f_max2, f_min2, f_neg, List.getElem?_cons_succ, List.getElem?_cons_zero, List.set_cons_succ, List.set_cons_zero, List.length_cons, List.length_nil, List.cons_append, List.nil_append, List.map_cons, List.map_nil, List.zip_cons_cons, List.zip_nil_left, List.zip_nil_right, List.foldl_cons, List.foldl_nil, szl, ite_true, ite_false, Nat.zero_add, Nat.reduceAdd, Nat.reduceSub, ↓reduceIte, and_self, and_true, true_and, Bool.not_true, Bool.not_false, Bool.not_not, Bool.false_eq_true, reduceCtorEq, gN, gT, gsNil, gsCons, hName, hTup, hsNil, hsCons, Option.bind_some, Option.map_some, partO, seqv_tup, seqv_fl, decide_true, decide_false, Nat.reduceLeDiff, isL_ref p1.at0, b1, app_of b4.at0 (show (hs.map slipD).length < sizeLine by rw [List.length_map, sizeV]; omega), slipD]; try rfl)) ?_
      refine sp_nx (e1 := [some (.ref 1), some (.int (c : Nat)), some (.int (n : Nat)), some (.int (t + 1 + s)), some (.ref (rest.length + 2)), some d]) (st1 := st7) (by (simp only [bind_exc, toS_exc, seq_exc, seq_rt, x_var, x_c, x_bin, x_un, x_fn, x_bm, x_tst, x_notT, x_andT, x_orT, x_if, x_not, x_and, x_or, x_nil, x_cons, x_star, x_tup, x_lst, x_call, x_sl, x_oN, x_oS, x_lrg, x_trg, x_iseq, x_enum, x_zip, x_yes, x_mk, x_mt, x_fld, x_snil, x_set, x_ret, x_sif, x_drop, x_raise, x_asg, x_par, x_asgH, x_hsub, x_sfld, bind_ok, toS_ok, seq_nx, opt_ok, sel_0, sel_1, sel_2, sel_3, sel_nil, mkL_f, mkL_t, f_int, f_add, f_eqI, f_neI, f_abs, f_i1, f_max2, f_min2, f_neg, List.getElem?_cons_succ, List.getElem?_cons_zero, List.set_cons_succ, List.set_cons_zero, List.length_cons, List.length_nil, List.cons_append, List.nil_append, List.map_cons, List.map_nil, List.zip_cons_cons, List.zip_nil_left, List.zip_nil_right, List.foldl_cons, List.foldl_nil, szl, ite_true, ite_false, Nat.zero_add, Nat.reduceAdd, Nat.reduceSub, ↓reduceIte, and_self, and_true, true_and, Bool.not_true, Bool.not_false, Bool.not_not, Bool.false_eq_true, reduceCtorEq, gN, gT, gsNil, gsCons, hName, hTup, hsNil, hsCons, Option.bind_some, Option.map_some, partO, seqv_tup, seqv_fl, decide_true, decide_false, Nat.reduceLeDiff, k1]; try rfl)) ?_
      refine ⟨_, _, rfl, hs ++ [(t, q)], by rw [List.length_append, List.length_singleton, hj], by rw [List.map_append]; exact k4, by omega, by omega, ?_, ?_⟩
      · refine List.pairwise_append.mpr ⟨p4.asc, List.pairwise_singleton _ _, fun a ha b hb => ?_⟩
        rw [List.mem_singleton.mp hb]
        exact (p4.ok a ha).2.1
      · intro p hp
        rcases List.mem_append.mp hp with hp | hp
        · have := p4.ok p hp
          exact ⟨this.1, by omega, this.2.2⟩
        · rw [List.mem_singleton.mp hp]
          exact ⟨p2, by show t < t + 1 + s; omega, b2, b3⟩
    · rintro e st5 ⟨t, x, rfl, hs, hj, p1, p2, p3, p4⟩
      rw [Nat.zero_add, List.length_map, List.length_range] at hj p3
      refine sp_ret (d := .tup (hs.map slipD)) (st1 := st5) (by (simp only [bind_exc, toS_exc, seq_exc, seq_rt, x_var, x_c, x_bin, x_un, x_fn, x_bm, x_tst, x_notT, x_andT, x_orT, x_if, x_not, x_and, x_or, x_nil, x_cons, x_star, x_tup, x_lst, x_call, x_sl, x_oN, x_oS, x_lrg, x_trg, x_iseq, x_enum, x_zip, x_yes, x_mk, x_mt, x_fld, x_snil, x_set, x_ret, x_sif, x_drop, x_raise, x_asg, x_par, x_asgH, x_hsub, x_sfld, bind_ok, toS_ok, seq_nx, opt_ok, sel_0, sel_1, sel_2, sel_3, sel_nil, mkL_f, mkL_t, f_int, f_add, f_eqI, f_neI, f_abs, f_i1, f_max2, f_min2, f_neg, List.getElem?_cons_succ, List.getElem?_cons_zero, List.set_cons_succ, List.set_cons_zero, List.length_cons, List.length_nil, List.cons_append, List.nil_append, List.map_cons, List.map_nil, List.zip_cons_cons, List.zip_nil_left, List.zip_nil_right, List.foldl_cons, List.foldl_nil, szl, ite_true, ite_false, Nat.zero_add, Nat.reduceAdd, Nat.reduceSub, ↓reduceIte, and_self, and_true, true_and, Bool.not_true, Bool.not_false, Bool.not_not, Bool.false_eq_true, reduceCtorEq, gN, gT, gsNil, gsCons, hName, hTup, hsNil, hsCons, Option.bind_some, Option.map_some, partO, seqv_tup, seqv_fl, decide_true, decide_false, Nat.reduceLeDiff, tuple_of (seqv_ref p1.at0)]; try rfl)) ?_
      obtain ⟨st6, rfl, p5⟩ := p1.cut
      refine ⟨_, _, gcD_cut (by rw [h.len, p5.len]) (by simp only [noRef, noRefs_slips]) (p5.wf (by rw [h.len]; omega) (by rw [h.len]; exact hw)), hs, rfl, p5, ⟨p4.asc, fun p hp => ?_⟩, hj⟩
      have := p4.ok p hp
      exact ⟨this.1, by omega, this.2.2⟩
  obtain ⟨d, st', h1, hs, rfl, h2, h3, h4⟩ := z
  exact ⟨hs, st', h1, h2, h3, h4⟩
end
end Mi

namespace Mi
open PySem L2 Dw
/-! ### a dict of things seen -/
def seenO (ts : List Int) : MO := .dk (ts.map fun t => (Sum.inl t, .bl true))
section
variable {st : Sto} {ts : List Int} {t : Int}
theorem at_end {l : Sto} {o : MO} : (l ++ [o])[l.length]? = some o := at0
theorem seen_val : (valD (ts.map fun t => ((Sum.inl t : L2.Key), D.bl true)) (Sum.inl t)).isSome = decide (t ∈ ts) := by
  induction ts with
  | nil => rfl
  | cons a r ih =>
    unfold valD at ih ⊢
    rw [List.map_cons, List.find?_cons]
    by_cases q : a = t
    · subst q
      simp
    · rw [decide_eq_false (show ¬ (Sum.inl a : L2.Key) = Sum.inl t from fun z => q (Sum.inl.inj z))]
      simp only
      rw [ih]
      have : (t ∈ a :: r) ↔ t ∈ r := ⟨fun h => by
        rcases List.mem_cons.mp h with h | h
        · exact absurd h.symm q
        · exact h, fun h => List.mem_cons_of_mem _ h⟩
      by_cases z : t ∈ r
      · rw [decide_eq_true z, decide_eq_true (this.mpr z)]
      · rw [decide_eq_false z, decide_eq_false (fun y => z (this.mp y))]
theorem seen_in : fInA false (.int t) (.ref st.length) (st ++ [seenO ts]) = .ok (.bl (decide (t ∈ ts))) (st ++ [seenO ts]) := by
  have : dGet (st ++ [seenO ts]) (.ref st.length) (.int t) = some (valD (ts.map fun t => ((Sum.inl t : L2.Key), D.bl true)) (Sum.inl t)) := by
    simp only [dGet, at_end, seenO, keyD, Option.map_some]
  unfold fInA
  simp only [this]
  rw [if_neg (by decide), seen_val]
theorem seen_put (h : t ∉ ts) (hl : ts.length < sizeLine) : setA (.ref st.length) (.int t) (.bl true) (st ++ [seenO ts]) = some (st ++ [seenO (ts ++ [t])]) := by
  have h1 : ((ts.map fun t => ((Sum.inl t : L2.Key), D.bl true)).any fun kv => decide (kv.1 = Sum.inl t)) = false := by
    rw [List.any_eq_false]
    intro kv hk
    obtain ⟨a, ha, rfl⟩ := List.mem_map.mp hk
    simp only [decide_eq_true_eq]
    intro z
    exact h (Sum.inl.inj z ▸ ha)
  have : dPut (st ++ [seenO ts]) (.ref st.length) (.int t) (.bl true) = some (st ++ [seenO (ts ++ [t])]) := by
    have hl' : (ts.map fun t => ((Sum.inl t : L2.Key), D.bl true)).length < sizeLine := by rw [List.length_map]; exact hl
    unfold dPut
    simp only [at_end]
    unfold seenO
    simp only [if_pos hl', keyD, Option.map_some, putDk, h1]
    rw [if_neg (by decide), List.set_append_right _ _ (by omega), Nat.sub_self, List.set_cons_zero, List.map_append]
    rfl
  unfold setA
  rw [this]
end
end Mi
namespace Mi
open PySem L2 Dw SrtO
theorem srt_uniq {α : Type} {lt : α → α → Bool} : ∀ {l m : List α}, l.Perm m → Srtd lt l → m.Pairwise (fun a b => lt a b = true) → l = m
  | l, [], hp, _, _ => hp.eq_nil
  | [], a :: m, hp, _, _ => by
    have := hp.length_eq
    rw [List.length_nil, List.length_cons] at this
    omega
  | b :: l, a :: m, hp, hs, hm => by
    have hs1 := List.pairwise_cons.mp hs
    have hm1 := List.pairwise_cons.mp hm
    have hab : b = a := by
      rcases List.mem_cons.mp (hp.mem_iff.mp (List.mem_cons_self (a := b) (l := l))) with h | h
      · exact h
      · rcases List.mem_cons.mp (hp.mem_iff.mpr (List.mem_cons_self (a := a) (l := m))) with h2 | h2
        · exact h2.symm
        · have h3 := hs1.1 a h2
          have h4 := hm1.1 b h
          rw [h3] at h4; cases h4
    subst hab
    rw [srt_uniq ((List.perm_cons b).mp hp) hs1.2 hm1.2]
end Mi
namespace Mi
open PySem L2 Dw SrtO
theorem sort_slips {hs : List (Int × Int)} {ys : List D} (hp : ys.Perm (hs.map slipD)) (asc : hs.Pairwise fun p q => p.1 < q.1) : isS ltPD ys = hs.map slipD := by
  refine srt_uniq ((isS_perm ys).trans hp) (isS_srtd swo_ltPD ys) (List.pairwise_map.mpr (asc.imp fun {p q} h => ?_))
  show lexB p q = true
  unfold lexB
  rw [if_neg (by omega)]
  exact decide_eq_true h
theorem cut_take {xs : List D} {j : Nat} : cutD xs none (some (j : Int)) = xs.take j := by
  unfold cutD
  rw [HT.sIx_none, HT.sIx_nat, List.drop_zero, Nat.sub_zero]
  rcases Nat.le_total j xs.length with h | h
  · rw [Nat.min_eq_left h]
  · rw [Nat.min_eq_right h, List.take_length, List.take_of_length_le h]
theorem cut_drop {xs : List D} {j : Nat} : cutD xs (some (j : Int)) none = xs.drop j := by
  unfold cutD
  rw [HT.sIx_none, HT.sIx_nat]
  rcases Nat.le_total j xs.length with h | h
  · rw [Nat.min_eq_left h]
    exact List.take_of_length_le (by rw [List.length_drop]; omega)
  · rw [Nat.min_eq_right h, List.drop_length, List.drop_of_length_le h, List.take_nil]
theorem cut_init {xs : List D} : cutD xs none (some (-1)) = xs.dropLast := by
  unfold cutD
  have : HT.sIx xs.length xs.length (some (-1)) = xs.length - 1 := by
    show (if (-1 : Int) < 0 then ((-1 : Int) + (xs.length : Int)).toNat else min (-1 : Int).toNat xs.length) = _
    rw [if_pos (by omega)]
    omega
  rw [HT.sIx_none, this, List.drop_zero, Nat.sub_zero, List.dropLast_eq_take]
end Mi
namespace Mi
open PySem L2 Dw
theorem set_lst {st : Sto} {n k : Nat} {l : List D} {d : D} (h : st[n]? = some (.lst l)) (hk : k < l.length) : setA (.ref n) (.int (k : Int)) d st = some (st.set n (.lst (l.set k d))) := by
  unfold setA dPut setD
  simp only [h]
  unfold ixN
  rw [if_pos (by omega), if_pos (by omega)]
  rfl
theorem set_end {st : Sto} {o o' : MO} : (st ++ [o]).set st.length o' = st ++ [o'] := by
  rw [List.set_append_right _ _ (by omega), Nat.sub_self, List.set_cons_zero]
end Mi

namespace Mi
open PySem L2 Dw
/-! ### what is shown -/
theorem strOk_app {x y : Str} (h1 : PyData.strOk x = true) (h2 : PyData.strOk y = true) : PyData.strOk (x ++ y) = true := by
  unfold PyData.strOk at *
  show (x.cps ++ y.cps).all _ = true
  rw [Array.all_append, h1, h2]; rfl
theorem strOk_of {s : String} : PyData.strOk (Str.ofString s) = true := by
  unfold PyData.strOk
  rw [Str.ofString_eq_toList, List.all_toArray]
  refine List.all_eq_true.mpr fun n hn => ?_
  obtain ⟨c, _, rfl⟩ := List.mem_map.mp hn
  refine decide_eq_true ?_
  have := c.valid
  unfold UInt32.isValidChar Nat.isValidChar at this
  show c.val.toNat < 0x110000
  omega
theorem strOk_join {sep : Str} (h : PyData.strOk sep = true) : ∀ {l : List Str}, (∀ x ∈ l, PyData.strOk x = true) → PyData.strOk (Str.join sep l) = true
  | [], _ => by
    show PyData.strOk ⟨#[]⟩ = true
    decide +kernel
  | [x], hl => hl x List.mem_cons_self
  | x :: y :: r, hl => by
    show PyData.strOk (x ++ sep ++ Str.join sep (y :: r)) = true
    exact strOk_app (strOk_app (hl x List.mem_cons_self) h) (strOk_join h fun z hz => hl z (List.mem_cons_of_mem _ hz))
theorem strOk_from : ∀ {l : List Str} {k : Nat} {acc : Str}, PyData.strOk acc = true → (∀ x ∈ l, PyData.strOk x = true) → PyData.strOk (textFrom k acc l) = true
  | [], _, _, h, _ => h
  | t :: ts, k, acc, h, hl => by
    show PyData.strOk (textFrom (k + 1) (acc ++ (if k > 0 then ", " else "" : String) ++ t) ts) = true
    exact strOk_from (strOk_app (strOk_app h strOk_of) (hl t List.mem_cons_self)) fun z hz => hl z (List.mem_cons_of_mem _ hz)
structure Sw (k n : Nat) (d : PyData) : Prop extends Sm k n d where
  okc : PyData.strOk d.shown = true
theorem showableAll_of {xs : List PyData} (h : ∀ x ∈ xs, x.showable = true) : PyData.showableAll xs = true := by
  induction xs with
  | nil => simp only [PyData.showableAll]
  | cons a r ih =>
    simp only [PyData.showableAll, Bool.and_eq_true]
    exact ⟨h a List.mem_cons_self, ih fun x hx => h x (List.mem_cons_of_mem _ hx)⟩
theorem hasDictAll_of {xs : List PyData} (h : ∀ x ∈ xs, x.hasDict = false) : PyData.hasDictAll xs = false := by
  induction xs with
  | nil => simp only [PyData.hasDictAll]
  | cons a r ih =>
    simp only [PyData.hasDictAll, Bool.or_eq_false_iff]
    exact ⟨h a List.mem_cons_self, ih fun x hx => h x (List.mem_cons_of_mem _ hx)⟩
theorem shownAll_map {xs : List PyData} : PyData.shownAll xs = xs.map PyData.shown := by
  induction xs with
  | nil => simp only [PyData.shownAll, List.map_nil]
  | cons a r ih => simp only [PyData.shownAll, List.map_cons, ih]
theorem sum_le {n : Nat} : ∀ {l : List Nat}, (∀ x ∈ l, x ≤ n) → l.sum ≤ l.length * n
  | [], _ => by simp
  | a :: r, h => by
    have h1 := h a List.mem_cons_self
    have h2 := sum_le fun x hx => h x (List.mem_cons_of_mem _ hx)
    rw [List.sum_cons, List.length_cons, Nat.succ_mul]
    omega
section
variable {k n c : Nat}
theorem Sw.up {j m : Nat} {d : PyData} (h : Sw j m d) (hk : j ≤ k) (hn : m ≤ n) : Sw k n d := ⟨⟨h.lay, Nat.le_trans h.dep hk, h.shw, h.nod, Nat.le_trans h.len hn⟩, h.okc⟩
theorem Sw.int {i : Int} (h : i.natAbs < 10 ^ 18) : Sw 0 19 (.int i) := by
  refine ⟨⟨Sh.int.lay, Sh.int.dep, ?_, by simp only [PyData.hasDict], ?_⟩, ?_⟩
  · simp only [PyData.showable, decide_eq_true_eq]
    rcases Nat.eq_zero_or_pos i.natAbs with z | z
    · rw [z]; decide
    · have : i.natAbs < 2 ^ 60 := Nat.lt_trans h (by decide)
      have := (Nat.log2_lt (n := i.natAbs) (k := 60) (by omega)).mpr this
      omega
  · simp only [PyData.shown]
    rw [ofString_length]
    exact int_text_length_le10 (by decide) h
  · simp only [PyData.shown]
    exact strOk_of
theorem Sw.bl {b : Bool} : Sw 0 19 (.bool b) := ⟨⟨Sh.bl.lay, Sh.bl.dep, by simp only [PyData.showable], by simp only [PyData.hasDict], by cases b <;> decide +kernel⟩, by cases b <;> decide +kernel⟩
theorem Sw.non : Sw 0 19 .none := ⟨⟨Sh.non.lay, Sh.non.dep, by simp only [PyData.showable], by simp only [PyData.hasDict], by decide +kernel⟩, by decide +kernel⟩
theorem Sw.tup {xs : List PyData} (h : ∀ x ∈ xs, Sw k n x) (hl : xs.length ≤ c) : Sw (k + 1) (c * (n + 2) + 3) (.tuple xs) := by
  refine ⟨⟨(Sh.tup fun x hx => (h x hx).sh).lay, (Sh.tup fun x hx => (h x hx).sh).dep, ?_, ?_, ?_⟩, ?_⟩
  · simp only [PyData.showable]; exact showableAll_of fun x hx => (h x hx).shw
  · simp only [PyData.hasDict]; exact hasDictAll_of fun x hx => (h x hx).nod
  · simp only [PyData.shown]
    rw [shownAll_map]
    have h1 := tupleText_len_le (xs.map PyData.shown)
    have h2 := sum_le (n := n) (l := (xs.map PyData.shown).map (·.length)) fun y hy => by
      obtain ⟨z, hz, rfl⟩ := List.mem_map.mp hy
      obtain ⟨w, hw, rfl⟩ := List.mem_map.mp hz
      exact (h w hw).len
    simp only [List.length_map] at h1 h2
    have h3 := Nat.mul_le_mul_right (n + 2) hl
    have h4 : xs.length * (n + 2) = xs.length * n + xs.length * 2 := Nat.mul_add _ _ _
    omega
  · simp only [PyData.shown]
    unfold tupleText
    rw [shownAll_map]
    refine strOk_app (strOk_app strOk_of (strOk_join strOk_of fun y hy => ?_)) ?_
    · obtain ⟨w, hw, rfl⟩ := List.mem_map.mp hy
      exact (h w hw).okc
    · split <;> exact strOk_of
theorem Sw.list {xs : List PyData} (h : ∀ x ∈ xs, Sw k n x) (hl : xs.length ≤ c) : Sw (k + 1) (c * (n + 2) + 3) (.list xs) := by
  refine ⟨⟨(Sh.list fun x hx => (h x hx).sh).lay, (Sh.list fun x hx => (h x hx).sh).dep, ?_, ?_, ?_⟩, ?_⟩
  · simp only [PyData.showable]; exact showableAll_of fun x hx => (h x hx).shw
  · simp only [PyData.hasDict]; exact hasDictAll_of fun x hx => (h x hx).nod
  · simp only [PyData.shown]
    rw [shownAll_map]
    have h1 := listText_len_le (xs.map PyData.shown)
    have h2 := sum_le (n := n) (l := (xs.map PyData.shown).map (·.length)) fun y hy => by
      obtain ⟨z, hz, rfl⟩ := List.mem_map.mp hy
      obtain ⟨w, hw, rfl⟩ := List.mem_map.mp hz
      exact (h w hw).len
    simp only [List.length_map] at h1 h2
    have h3 := Nat.mul_le_mul_right (n + 2) hl
    have h4 : xs.length * (n + 2) = xs.length * n + xs.length * 2 := Nat.mul_add _ _ _
    omega
  · simp only [PyData.shown]
    unfold listText
    rw [shownAll_map]
    refine strOk_app (strOk_from strOk_of fun y hy => ?_) strOk_of
    obtain ⟨w, hw, rfl⟩ := List.mem_map.mp hy
    exact (h w hw).okc
end
/-- data that may be shown -/
def SD (k n : Nat) (d : D) : Prop := ∃ a, Pv d a ∧ Sw k n a
section
variable {k n c : Nat}
theorem SD.up {j m : Nat} {d : D} (h : SD j m d) (hk : j ≤ k) (hn : m ≤ n) : SD k n d := let ⟨a, h1, h2⟩ := h; ⟨a, h1, h2.up hk hn⟩
theorem SD.int {i : Int} (h : i.natAbs < 10 ^ 18) : SD 0 19 (.int i) := ⟨_, Pv.int, Sw.int h⟩
theorem SD.bl {b : Bool} : SD 0 19 (.bl b) := ⟨_, Pv.bl, Sw.bl⟩
theorem SD.non : SD 0 19 .non := ⟨_, Pv.non, Sw.non⟩
theorem Pvs.sw : ∀ {ds : List D}, (∀ d ∈ ds, SD k n d) → ∃ as, Pvs ds as ∧ (∀ a ∈ as, Sw k n a) ∧ as.length = ds.length
  | [], _ => ⟨[], Pvs.nil, (fun _ h => by cases h), rfl⟩
  | d :: ds, h => by
    obtain ⟨a, h1, h2⟩ := h d List.mem_cons_self
    obtain ⟨as, h3, h4, h5⟩ := Pvs.sw fun x hx => h x (List.mem_cons_of_mem _ hx)
    exact ⟨a :: as, Pvs.cons h1 h3, (fun x hx => by
      rcases List.mem_cons.mp hx with rfl | hx
      · exact h2
      · exact h4 x hx), by rw [List.length_cons, List.length_cons, h5]⟩
theorem SD.tup {ds : List D} (h : ∀ d ∈ ds, SD k n d) (hl : ds.length ≤ c) : SD (k + 1) (c * (n + 2) + 3) (.tup ds) := by
  obtain ⟨as, h1, h2, h3⟩ := Pvs.sw h
  exact ⟨_, Pv.tup h1, Sw.tup h2 (by omega)⟩
theorem SD.fl {ds : List D} (h : ∀ d ∈ ds, SD k n d) (hl : ds.length ≤ c) : SD (k + 1) (c * (n + 2) + 3) (.fl ds) := by
  obtain ⟨as, h1, h2, h3⟩ := Pvs.sw h
  exact ⟨_, Pv.fl h1, Sw.list h2 (by omega)⟩
/-- one text for one tuple -/
theorem repr_tup {ds : List D} (h : SD k n (.tup ds)) (hk : k ≤ 60) (hn : n ≤ 16777216) : ∃ s : Str, PyData.strOk s = true ∧ ∀ st, fRepr [.tup ds] st = .ok (.str s) st := by
  obtain ⟨a, h1, h2⟩ := h
  have hd : PyProof.Rows.isDisplay a = true := by
    have := h1 (fun _ => none)
    simp only [pyOf, Option.map_eq_some_iff] at this
    obtain ⟨as, _, rfl⟩ := this
    rfl
  refine ⟨a.shown, h2.okc, fun st => ?_⟩
  have : fRepr [.tup ds] st = (match toPy st (.tup ds) with
    | some d => if PyProof.Rows.isDisplay d = true ∧ d.showable = true ∧ d.hasDict = false ∧ d.depth ≤ 60 ∧ d.shown.length ≤ sizeLine then .ok (.str d.shown) st else .bad
    | none => .bad) := rfl
  rw [this, h1.py]
  exact if_pos ⟨hd, h2.shw, h2.nod, Nat.le_trans h2.dep hk, Nat.le_trans h2.len (by rw [sizeV]; exact hn)⟩
theorem str_same {neg : Bool} {s : Str} (h : PyData.strOk s = true) {st : Sto} : fEq neg (.str s) (.str s) st = .ok (.bl (!neg)) st := by
  have h3 : SeqAt.shaped (.str s) = true := by
    have : Sh 0 (.str s) := ⟨by simp only [PyData.canLay0]; exact h, by simp only [PyData.depth]; omega⟩
    exact this.shaped (by decide)
  have : PyData.eqv (.str s) (.str s) = true := by simp only [PyData.eqv]; exact beq_self_eq_true s
  rw [f_eq py_str py_str h3 h3, this]
  cases neg <;> rfl
end
end Mi
namespace Mi
open PySem L2 Dw
/-- a walk that keeps something; over a list of ours -/
theorem sp_runG {N : En → Sto → Prop} {R : D → Sto → Prop} {b : SM} {g : D → En → Option En} {gd : Grd} {I : Nat → En → Sto → Prop} (hgd : ∀ i e st, I i e st → grdOk gd st) (ds : List D) : ∀ {e : En} {st : Sto} (i : Nat), I i e st → (∀ j d e st, i ≤ j → ds[j - i]? = some d → I j e st → ∃ e1, g d e = some e1 ∧ SP (b e1 st) (I (j + 1)) R) → (∀ e st, I (i + ds.length) e st → N e st) → SP (fRun g b gd ds e st) N R := by
  induction ds with
  | nil => intro e st i hI _ hN; rw [fRun_end (hgd _ _ _ hI)]; exact .nx (hN e st hI)
  | cons d ds ih =>
    intro e st i hI hs hN
    obtain ⟨e1, h1, h2⟩ := hs i d e st (Nat.le_refl _) (by rw [Nat.sub_self]; rfl) hI
    rw [fRun, if_pos (hgd _ _ _ hI)]
    simp only [h1]
    generalize b e1 st = o at h2 ⊢
    cases h2 with
    | nx h2 =>
      exact ih (i + 1) h2 (fun j d' e st hj hd hI => hs j d' e st (by omega) (by
        have : j - i = (j - (i + 1)) + 1 := by omega
        rw [this]; exact hd) hI) (fun e st h => hN e st (by rw [List.length_cons]; rw [show i + (ds.length + 1) = i + 1 + ds.length by omega]; exact h))
    | rt h2 => exact .rt h2
theorem x_make {x : Str} {F : List D → Sto → Out D} {n m : Nat} {π : List Nat} {a k : AM} {env : En} {st : Sto} : mMake x F n m π a k env st = (a env st).bind fun ds st1 => (k env st1).bind fun es st2 =>
  if ds.length = n ∧ es.length = m then madeD st2.length (F (sel π (.ref st2.length :: (ds ++ es))) (st2 ++ [.ins x []])) else .bad := rfl
mutual
theorem eqv_self : ∀ a : PyData, a.canLay0 = true → PyData.eqv a a = true
  | .none, _ => by simp only [PyData.eqv]
  | .bool b, _ => by simp only [PyData.eqv]; exact beq_self_eq_true b
  | .int b, _ => by simp only [PyData.eqv]; exact beq_self_eq_true b
  | .str b, _ => by simp only [PyData.eqv]; exact beq_self_eq_true b
  | .list xs, h => by
    simp only [PyData.eqv]
    simp only [PyData.canLay0] at h
    exact eqvs_self xs h
  | .tuple xs, h => by
    simp only [PyData.eqv]
    simp only [PyData.canLay0] at h
    exact eqvs_self xs h
  | .dict _, h => by simp [PyData.canLay0] at h
theorem eqvs_self : ∀ a : List PyData, PyData.canLayAll0 a = true → PyData.eqvAll a a = true
  | [], _ => by simp only [PyData.eqvAll]
  | x :: xs, h => by
    simp only [PyData.canLayAll0, Bool.and_eq_true] at h
    simp only [PyData.eqvAll, Bool.and_eq_true]
    exact ⟨eqv_self x h.1, eqvs_self xs h.2⟩
end
/-- plain data against itself -/
theorem eq_self_of {d : D} {k : Nat} (h : PD k d) (hk : k ≤ 60) {neg : Bool} {st : Sto} : fEq neg d d st = .ok (.bl (!neg)) st := by
  obtain ⟨a, h1, h2⟩ := h
  rw [f_eq h1.py h1.py (h2.shaped (by omega)) (h2.shaped (by omega)), eqv_self a h2.lay]
  cases neg <;> rfl
/-- a tuple against () -/
theorem tup_nil {ds : List D} {k : Nat} (h : ∀ d ∈ ds, PD k d) (hk : k ≤ 60) {neg : Bool} {st : Sto} : fEq neg (.tup ds) (.tup []) st = .ok (.bl (if neg = true then !decide (ds = []) else decide (ds = []))) st := by
  obtain ⟨as, h1, h2, h3⟩ := Pvs.all h
  rw [f_eq (Pv.tup h1).py (Pv.tup Pvs.nil).py ((Sh.tup h2).shaped (by omega)) (Sh.tup (k := 0) (fun x hx => by cases hx) |>.shaped (by decide))]
  have : PyData.eqv (.tuple as) (.tuple []) = decide (ds = []) := by
    simp only [PyData.eqv]
    rw [eqvAll_nil]
    cases ds with
    | nil => rw [List.length_eq_zero_iff.mp h3]; rfl
    | cons d r =>
      cases as with
      | nil => cases h3
      | cons a r => rfl
  rw [this]
theorem PD.slip {p : Int × Int} : PD 1 (slipD p) := PD.tup (ds := [.int p.1, .int p.2]) fun d hd => by
  simp only [List.mem_cons, List.not_mem_nil, or_false] at hd
  rcases hd with rfl | rfl <;> exact PD.int
theorem PD.slips {hs : List (Int × Int)} : ∀ d ∈ hs.map slipD, PD 1 d := fun d hd => by
  obtain ⟨p, _, rfl⟩ := List.mem_map.mp hd
  exact PD.slip
theorem Sw.str {s : Str} (h1 : PyData.strOk s = true) (h2 : (reprText s).length ≤ 19) (h3 : PyData.strOk (reprText s) = true) : Sw 0 19 (.str s) :=
  ⟨⟨by simp only [PyData.canLay0]; exact h1, by simp only [PyData.depth]; omega, by simp only [PyData.showable], by simp only [PyData.hasDict], by simp only [PyData.shown]; exact h2⟩, by simp only [PyData.shown]; exact h3⟩
theorem SD.str {s : Str} (h1 : PyData.strOk s = true) (h2 : (reprText s).length ≤ 19) (h3 : PyData.strOk (reprText s) = true) : SD 0 19 (.str s) := ⟨_, Pv.str, Sw.str h1 h2 h3⟩
theorem SD.slip {p : Int × Int} (h1 : p.1.natAbs < 10 ^ 18) (h2 : p.2.natAbs < 10 ^ 18) : SD 1 45 (slipD p) := SD.tup (c := 2) (ds := [.int p.1, .int p.2]) (fun d hd => by
  simp only [List.mem_cons, List.not_mem_nil, or_false] at hd
  rcases hd with rfl | rfl
  · exact SD.int h1
  · exact SD.int h2) (Nat.le_refl 2)
theorem SD.slips {hs : List (Int × Int)} (h : ∀ p ∈ hs, p.1.natAbs < 10 ^ 18 ∧ p.2.natAbs < 10 ^ 18) (hl : hs.length ≤ 1000) : SD 2 47003 (.tup (hs.map slipD)) := SD.tup (c := 1000) (fun d hd => by
  obtain ⟨p, hp, rfl⟩ := List.mem_map.mp hd
  exact SD.slip (h p hp).1 (h p hp).2) (by rw [List.length_map]; exact hl)
theorem SD.pair {s : Str} {d : D} {k n : Nat} (hs : SD 0 19 (.str s)) (hd : SD k n d) (hn : 19 ≤ n) : SD (k + 1) (2 * (n + 2) + 3) (.tup [.str s, d]) := SD.tup (c := 2) (fun x hx => by
  simp only [List.mem_cons, List.not_mem_nil, or_false] at hx
  rcases hx with rfl | rfl
  · exact hs.up (by omega) hn
  · exact hd) (Nat.le_refl 2)
theorem told_sd : SD 0 19 (.str "told") := SD.str (by decide +kernel) (by decide +kernel) (by decide +kernel)
theorem slip_sd : SD 0 19 (.str "slip") := SD.str (by decide +kernel) (by decide +kernel) (by decide +kernel)
theorem refused_sd : SD 0 19 (.str "refused") := SD.str (by decide +kernel) (by decide +kernel) (by decide +kernel)
end Mi

namespace Dw
open PySem L2 Mi
noncomputable def b__law_led : SM := (sSeq (sFor (iSeq (mVar 2)) (gN 3) (sSet 1 (mBin fIxA (mBin fIxA (mVar 0) (mVar 1)) (mVar 3))))
    (sRet (mVar 1)))
noncomputable def F__law_led : List D → Sto → Out D := fnM 4 3 b__law_led
noncomputable def b__law_wide : SM := (sSeq (sAsg (gT 2 (gsCons (gN 2) (gsCons (gN 3) gsNil))) (mCall F__law_machine 2 0 [0, 1] (aCons (mVar 0) (aCons (mVar 1) aNil)) aNil))
    (sSeq (sIf (mTst (mBin fGt (mCall F__law_any 2 0 [0, 1] (aCons (mVar 0) (aCons (mC (.int 4)) aNil)) aNil) (mC (.int 0)))) (sRet (mTup (aCons (mVar 2) (aCons (mVar 3) aNil)))) sNil)
    (sRet (mTup (aCons (mC (.int 5)) (aCons (mComp false (iSeq (mVar 3)) (gN 4) [4] tYesM (mBin (fAdd false) (mFn (fList false) (aCons (mVar 4) aNil)) (mComp false (iRg1 (mBin fSub (mC (.int 5)) (mVar 2))) (gN 5) [5] tYesM (mCall F__law_any 2 0 [0, 1] (aCons (mVar 0) (aCons (mFn fLen (aCons (mVar 3) aNil)) aNil)) aNil)))) aNil))))))
noncomputable def F__law_wide : List D → Sto → Out D := fnM 6 2 b__law_wide
end Dw
namespace Mi
open PySem L2 Dw
section
variable {st st1 : Sto} {x d : D} {ys : List D}
theorem ix_map {α : Type} {f : α → D} {l : List α} {i : Int} {d0 : α} (hx : seqv st x = some (l.map f)) (h0 : 0 ≤ i) (h1 : i < l.length) : fIxA x (.int i) st = .ok (f (l.getD i.toNat d0)) st := by
  have h : i.toNat < l.length := by omega
  refine ix_int h0 hx ?_
  rw [List.getElem?_map, List.getElem?_eq_getElem h, getD_at h]; rfl
theorem walkD_of (hd : seqv st d = some ys) : ∃ g, walkD d st = .ok (ys, g) st ∧ grdOk g st := by
  cases d with
  | tup ys => cases hd; exact ⟨none, rfl, trivial⟩
  | fl ys => cases hd; exact ⟨none, rfl, trivial⟩
  | rl ys => cases hd; exact ⟨none, rfl, trivial⟩
  | ref n =>
    unfold seqv lstv lsts at hd
    cases q : st[n]? with
    | none => simp only [q] at hd; cases hd
    | some o =>
      simp only [q] at hd
      cases o with
      | lst zs =>
        cases hd
        refine ⟨some (n, _), ?_, q⟩
        unfold walkD
        simp only [q]
      | _ => cases hd
  | _ => cases hd
/-- [f(x) for x in xs if p(x)], of no effect -/
theorem comp_of {α : Type} {c : EM} {te : EM} {tt : TM} {g : D → En → Option En} {vs : List Nat} {e : En} {xs : List α} (mk : α → D) (p : α → Bool) (f : α → D) (h : c e st = .ok d st) (hd : seqv st d = some (xs.map mk)) (hn : xs.length < 2 ^ 20) (ht : ∀ x ∈ xs, ∃ e1, g (mk x) (wipeE e vs) = some e1 ∧ tt e1 st = .ok (p x) st ∧ (p x = true → te e1 st = .ok (f x) st)) :
    mComp false (iSeq c) g vs tt te e st = .ok (.fl ((xs.filter p).map f)) st := by
  obtain ⟨gd, hw, hg⟩ := walkD_of hd
  have hc := cRun_of (g := g) (tt := tt) (te := te) (gd := gd) (env := wipeE e vs) (st := st) mk p f hg (xs := xs) (acc := []) ht (by rw [sizeV, List.length_nil]; omega)
  rw [x_comp, x_iseq, h, bind_ok, hw, bind_ok]
  show (match cRun g tt te gd (wipeE e vs) [] _ st with
    | some (acc, st2) => mkL false acc st2
    | none => .bad) = _
  rw [hc]
  rfl
theorem comp_all {α : Type} {c : EM} {te : EM} {g : D → En → Option En} {vs : List Nat} {e : En} {xs : List α} (mk : α → D) (f : α → D) (h : c e st = .ok d st) (hd : seqv st d = some (xs.map mk)) (hn : xs.length < 2 ^ 20) (ht : ∀ x ∈ xs, ∃ e1, g (mk x) (wipeE e vs) = some e1 ∧ te e1 st = .ok (f x) st) :
    mComp false (iSeq c) g vs tYesM te e st = .ok (.fl (xs.map f)) st := by
  have := comp_of (tt := tYesM) mk (fun _ => true) f h hd hn (fun x hx => let ⟨e1, a, b⟩ := ht x hx; ⟨e1, a, rfl, fun _ => b⟩)
  rwa [List.filter_eq_self.mpr (fun _ _ => rfl)] at this
theorem comp_exc {o : Bool} {c : EM} {te : EM} {tt : TM} {g : D → En → Option En} {vs : List Nat} {e : En} {ex : Str} {v : Option D} (h : c e st = .exc ex v st1) : mComp o (iSeq c) g vs tt te e st = .exc ex v st1 := by
  rw [x_comp, x_iseq, h]; rfl
theorem in_ints {neg : Bool} {t : Int} {ts : List Int} : fInA neg (.int t) (.fl (ts.map .int)) st = .ok (.bl (if neg = true then !decide (t ∈ ts) else decide (t ∈ ts))) st := by
  have h1 : fInA neg (.int t) (.fl (ts.map .int)) st = fIn neg (.int t) (.fl (ts.map .int)) st := rfl
  have h2 : toPy st (.int t) = some (.int t) := Pv.int.py
  have h3 : toPy st (.fl (ts.map .int)) = some (.list (ts.map .int)) := (Pv.fl Pvs.ints).py
  have h4 : ∀ ts : List Int, ((ts.map PyData.int).any fun z => PyData.eqv z (.int t)) = decide (t ∈ ts) := by
    intro ts
    induction ts with
    | nil => rfl
    | cons a r ih =>
      rw [List.map_cons, List.any_cons, ih]
      have : PyData.eqv (.int a) (.int t) = decide (a = t) := by
        simp only [PyData.eqv]
        by_cases q : a = t
        · subst q; simp
        · rw [decide_eq_false q]; exact beq_eq_false_iff_ne.mpr q
      rw [this]
      by_cases q : a = t
      · subst q; simp
      · have q2 : ¬ t = a := fun z => q z.symm
        simp [q, q2]
  rw [h1]
  unfold fIn
  simp only [h2, h3]
  rw [if_pos ⟨(Sh.int (i := t)).shaped (by decide), Sh.ints.shaped (by decide)⟩, h4 ts]
theorem add_lst {a b : D} {xs zs : List D} (h1 : lsts st a = some xs) (h2 : lsts st b = some zs) (hl : xs.length + zs.length ≤ sizeLine) : fAdd false a b st = .ok (.fl (xs ++ zs)) st := by
  have : fAdd false a b st = (match lsts st a, lsts st b with
    | some a, some b => if a.length + b.length ≤ sizeLine then mkL false (a ++ b) st else .bad
    | _, _ => .bad) := by
    cases a <;> first | rfl | (cases h1)
  rw [this, h1, h2]
  simp only [if_pos hl]
  rfl
theorem add_tup {xs zs : List D} (hl : xs.length + zs.length ≤ sizeLine) : fAdd false (.tup xs) (.tup zs) st = .ok (.tup (xs ++ zs)) st := by
  show (if xs.length + zs.length ≤ sizeLine then _ else _) = _
  rw [if_pos hl]
theorem lsts_ref {n : Nat} {l : List D} (h : st[n]? = some (.lst l)) : lsts st (.ref n) = some l := by
  unfold lsts
  simp only [h]
end
/-- one text for one list -/
theorem repr_fl {k n : Nat} {ds : List D} (h : SD k n (.fl ds)) (hk : k ≤ 60) (hn : n ≤ 16777216) : ∃ s : Str, PyData.strOk s = true ∧ ∀ st, fRepr [.fl ds] st = .ok (.str s) st := by
  obtain ⟨a, h1, h2⟩ := h
  have hd : PyProof.Rows.isDisplay a = true := by
    have := h1 (fun _ => none)
    simp only [pyOf, Option.map_eq_some_iff] at this
    obtain ⟨as, _, rfl⟩ := this
    rfl
  refine ⟨a.shown, h2.okc, fun st => ?_⟩
  have : fRepr [.fl ds] st = (match toPy st (.fl ds) with
    | some d => if PyProof.Rows.isDisplay d = true ∧ d.showable = true ∧ d.hasDict = false ∧ d.depth ≤ 60 ∧ d.shown.length ≤ sizeLine then .ok (.str d.shown) st else .bad
    | none => .bad) := rfl
  rw [this, h1.py]
  exact if_pos ⟨hd, h2.shw, h2.nod, Nat.le_trans h2.dep hk, Nat.le_trans h2.len (by rw [sizeV]; exact hn)⟩
/-! ### steps of machines -/
def stepI (ss : List (List Int)) (s q : Int) : Int := (ss.getD s.toNat []).getD q.toNat 0
def ledI (ss : List (List Int)) : Int → List Int → Int
  | s, [] => s
  | s, q :: r => ledI ss (stepI ss s q) r
section
variable {c : Nat} {ss : List (List Int)} {s q : Int} {st : Sto}
theorem step_in (hm : Mach c ss) (hs : 0 ≤ s ∧ s < ss.length) (hq : 0 ≤ q ∧ q < c) : 0 ≤ stepI ss s q ∧ stepI ss s q < ss.length := by
  have h1 : s.toNat < ss.length := by omega
  unfold stepI
  rw [getD_at h1]
  have hr := List.getElem_mem h1
  have h2 : q.toNat < (ss[s.toNat]).length := by rw [hm.row _ hr]; omega
  rw [getD_at h2]
  exact hm.ok _ hr _ (List.getElem_mem h2)
theorem led_in (hm : Mach c ss) : ∀ (row : List Int) (s : Int), (0 ≤ s ∧ s < ss.length) → (∀ q ∈ row, 0 ≤ q ∧ q < c) → 0 ≤ ledI ss s row ∧ ledI ss s row < ss.length
  | [], s, hs, _ => hs
  | q :: r, s, hs, hq => led_in hm r _ (step_in hm hs (hq q List.mem_cons_self)) fun z hz => hq z (List.mem_cons_of_mem _ hz)
/-- one step, of rows that stand as f says -/
theorem ix_step {f : List Int → D} (hf : ∀ r st, seqv st (f r) = some (r.map .int)) (hm : Mach c ss) (hs : 0 ≤ s ∧ s < ss.length) (hq : 0 ≤ q ∧ q < c) {x : D} (hx : seqv st x = some (ss.map f)) :
    fIxA x (.int s) st = .ok (f (ss.getD s.toNat [])) st ∧ fIxA (f (ss.getD s.toNat [])) (.int q) st = .ok (.int (stepI ss s q)) st := by
  have h1 : s.toNat < ss.length := by omega
  refine ⟨ix_map hx hs.1 hs.2, ?_⟩
  have hr : ss.getD s.toNat [] ∈ ss := by rw [getD_at h1]; exact List.getElem_mem h1
  exact ix_map (f := D.int) (hf _ _) hq.1 (by rw [hm.row _ hr]; omega)
/-- the walk of the law -/
theorem law_led_ok {x : D} {row : List Int} (hm : Mach c ss) (hs : 0 ≤ s ∧ s < ss.length) (hq : ∀ q ∈ row, 0 ≤ q ∧ q < c) (hx : seqv st x = some (row.map .int)) : F__law_led [.fl (rowsD ss), .int s, x] st = .ok (.int (ledI ss s row)) st := by
  obtain ⟨gd, hw, hg⟩ := walkD_of hx
  have key : ∀ (row : List Int) (s : Int) (y : Option D), (0 ≤ s ∧ s < ss.length) → (∀ q ∈ row, 0 ≤ q ∧ q < c) → ∃ y', fRun (gN 3) (sSet 1 (mBin fIxA (mBin fIxA (mVar 0) (mVar 1)) (mVar 3))) gd (row.map .int) [some (.fl (rowsD ss)), some (.int s), some x, y] st = .nx [some (.fl (rowsD ss)), some (.int (ledI ss s row)), some x, y'] st := by
    intro row
    induction row with
    | nil => exact fun s y _ _ => ⟨y, fRun_end hg⟩
    | cons q r ih =>
      intro s y hs hq
      obtain ⟨y', hy⟩ := ih (stepI ss s q) (some (.int q)) (step_in hm hs (hq q List.mem_cons_self)) (fun z hz => hq z (List.mem_cons_of_mem _ hz))
      obtain ⟨i1, i2⟩ := ix_step (st := st) (x := .fl (rowsD ss)) (f := fun r => .fl (r.map .int)) (fun _ _ => rfl) hm hs (hq q List.mem_cons_self) rfl
      refine ⟨y', ?_⟩
      rw [List.map_cons, fRun_nx (e1 := [some (.fl (rowsD ss)), some (.int s), some x, some (.int q)]) (e2 := [some (.fl (rowsD ss)), some (.int (stepI ss s q)), some x, some (.int q)]) (st2 := st) hg rfl (by (simp only [bind_exc, toS_exc, seq_exc, seq_rt, x_var, x_c, x_bin, x_un, x_fn, x_bm, x_tst, x_notT, x_andT, x_orT, x_if, x_not, x_and, x_or, x_nil, x_cons, x_star, x_tup, x_lst, x_call, x_sl, x_oN, x_oS, x_lrg, x_trg, x_iseq, x_enum, x_zip, x_yes, x_mk, x_mt, x_fld, x_snil, x_set, x_ret, x_sif, x_drop, x_raise, x_asg, x_par, x_asgH, x_hsub, x_sfld, bind_ok, toS_ok, seq_nx, opt_ok, sel_0, sel_1, sel_2, sel_3, sel_nil, mkL_f, mkL_t, f_int, f_add, f_eqI, f_neI, f_abs, f_i1, f_max2, f_min2, f_neg, List.getElem?_cons_succ, List.getElem?_cons_zero, List.set_cons_succ, List.set_cons_zero, List.length_cons, List.length_nil, List.cons_append, List.nil_append, List.map_cons, List.map_nil, List.zip_cons_cons, List.zip_nil_left, List.zip_nil_right, List.foldl_cons, List.foldl_nil, szl, ite_true, ite_false, Nat.zero_add, Nat.reduceAdd, Nat.reduceSub, ↓reduceIte, and_self, and_true, true_and, Bool.not_true, Bool.not_false, Bool.not_not, Bool.false_eq_true, reduceCtorEq, gN, gT, gsNil, gsCons, hName, hTup, hsNil, hsCons, Option.bind_some, Option.map_some, partO, seqv_tup, seqv_fl, decide_true, decide_false, Nat.reduceLeDiff, i1, i2]; try rfl)), hy]
      rfl
  obtain ⟨y, hy⟩ := key row s none hs hq
  refine fn_rt (d := .int (ledI ss s row)) (st' := st) [some (.fl (rowsD ss)), some (.int s), some x, none] rfl rfl ?_ (gcD_same rfl)
  unfold b__law_led
  have q3 : sFor (iSeq (mVar 2)) (gN 3) (sSet 1 (mBin fIxA (mBin fIxA (mVar 0) (mVar 1)) (mVar 3))) [some (.fl (rowsD ss)), some (.int s), some x, none] st = .nx [some (.fl (rowsD ss)), some (.int (ledI ss s row)), some x, y] st := by
    rw [x_for, x_iseq, x_var]
    simp only [List.getElem?_cons_succ, List.getElem?_cons_zero]
    rw [bind_ok, hw, toS_ok]
    exact hy
  rw [x_seq, q3, seq_nx]
  (simp only [bind_exc, toS_exc, seq_exc, seq_rt, x_var, x_c, x_bin, x_un, x_fn, x_bm, x_tst, x_notT, x_andT, x_orT, x_if, x_not, x_and, x_or, x_nil, x_cons, x_star, x_tup, x_lst, x_call, x_sl, x_oN, x_oS, x_lrg, x_trg, x_iseq, x_enum, x_zip, x_yes, x_mk, x_mt, x_fld, x_snil, x_set, x_ret, x_sif, x_drop, x_raise, x_asg, x_par, x_asgH, x_hsub, x_sfld, bind_ok, toS_ok, seq_nx, opt_ok, sel_0, sel_1, sel_2, sel_3, sel_nil, mkL_f, mkL_t, f_int, f_add, f_eqI, f_neI, f_abs, f_i1, f_max2, f_min2, f_neg, List.getElem?_cons_succ, List.getElem?_cons_zero, List.set_cons_succ, List.set_cons_zero, List.length_cons, List.length_nil, List.cons_append, List.nil_append, List.map_cons, List.map_nil, List.zip_cons_cons, List.zip_nil_left, List.zip_nil_right, List.foldl_cons, List.foldl_nil, szl, ite_true, ite_false, Nat.zero_add, Nat.reduceAdd, Nat.reduceSub, ↓reduceIte, and_self, and_true, true_and, Bool.not_true, Bool.not_false, Bool.not_not, Bool.false_eq_true, reduceCtorEq, gN, gT, gsNil, gsCons, hName, hTup, hsNil, hsCons, Option.bind_some, Option.map_some, partO, seqv_tup, seqv_fl, decide_true, decide_false, Nat.reduceLeDiff]; try rfl)
end
/-- a comprehension whose elements are drawn -/
theorem cRun_draw {rest : Sto} {β : Type} {g : D → En → Option En} {te : EM} {env : En} (mk : β → D) (P : β → D → Prop) : ∀ (xs : List β) {acc : List D} {st : Sto}, (∀ (x : β) st, x ∈ xs → Dr rest st → ∃ e1 d st1, g (mk x) env = some e1 ∧ te e1 st = .ok d st1 ∧ P x d ∧ Dr rest st1) → Dr rest st → acc.length + xs.length ≤ sizeLine →
    ∃ ds st', cRun g tYesM te none env acc (xs.map mk) st = some (acc ++ ds, st') ∧ Dr rest st' ∧ ds.length = xs.length ∧ ∀ i (h : i < xs.length), ∃ d, ds[i]? = some d ∧ P xs[i] d
  | [], acc, st, hs, h, _ => ⟨[], st, by rw [List.map_nil, cRun, if_pos (show grdOk none st from trivial)]; simp, h, rfl, fun i hi => absurd hi (by simp)⟩
  | x :: xs, acc, st, hs, h, hl => by
    obtain ⟨e1, d, st1, h1, h2, h3, h4⟩ := hs x st List.mem_cons_self h
    rw [List.length_cons] at hl
    obtain ⟨ds, st', k1, k2, k3, k4⟩ := cRun_draw mk P xs (acc := acc ++ [d]) (fun y st hy => hs y st (List.mem_cons_of_mem _ hy)) h4 (by rw [List.length_append, List.length_singleton]; omega)
    refine ⟨d :: ds, st', ?_, k2, by rw [List.length_cons, List.length_cons, k3], ?_⟩
    · rw [List.map_cons, cRun, if_pos (show grdOk none st from trivial)]
      simp only [h1]
      rw [show tYesM e1 st = .ok true st from rfl]
      simp only
      rw [h2]
      simp only
      rw [if_pos (by omega), k1, List.append_assoc]
      rfl
    · rintro (_ | i) hi
      · exact ⟨d, rfl, h3⟩
      · obtain ⟨d', a, b⟩ := k4 i (by simpa using hi)
        exact ⟨d', a, b⟩
section
variable {rest st : Sto}
/-- the same over what stands -/
theorem comp_fl_draw {β : Type} {c : EM} {te : EM} {g : D → En → Option En} {vs : List Nat} {e : En} {xs : List β} (mk : β → D) (P : β → D → Prop) (h : c e st = .ok (.fl (xs.map mk)) st ∨ c e st = .ok (.tup (xs.map mk)) st) (hd : Dr rest st) (hn : xs.length < 2 ^ 20) (hs : ∀ (x : β) st, x ∈ xs → Dr rest st → ∃ e1 d st1, g (mk x) (wipeE e vs) = some e1 ∧ te e1 st = .ok d st1 ∧ P x d ∧ Dr rest st1) :
    ∃ ds st', mComp false (iSeq c) g vs tYesM te e st = .ok (.fl ds) st' ∧ Dr rest st' ∧ ds.length = xs.length ∧ ∀ i (h : i < xs.length), ∃ d, ds[i]? = some d ∧ P xs[i] d := by
  obtain ⟨ds, st', k1, k2⟩ := cRun_draw (g := g) (te := te) (env := wipeE e vs) (acc := []) mk P xs hs hd (by rw [sizeV, List.length_nil]; omega)
  refine ⟨ds, st', ?_, k2⟩
  have hw : iSeq c e st = .ok (xs.map mk, none) st := by
    rw [x_iseq]
    rcases h with h | h <;> (rw [h]; rfl)
  rw [x_comp, hw, bind_ok]
  show (match cRun g tYesM te none (wipeE e vs) [] _ st with
    | some (acc, st2) => mkL false acc st2
    | none => .bad) = _
  rw [k1]
  rfl
theorem comp_rg_draw {c : EM} {te : EM} {e : En} {v : Nat} {n : Nat} (P : Nat → D → Prop) (h : c e st = .ok (.int n) st) (hd : Dr rest st) (hn : n < 2 ^ 20) (hs : ∀ (i : Nat) st, i < n → Dr rest st → ∃ d st1, te ((wipeE e [v]).set v (some (.int i))) st = .ok d st1 ∧ P i d ∧ Dr rest st1) :
    ∃ ds st', mComp false (iRg1 c) (gN v) [v] tYesM te e st = .ok (.fl ds) st' ∧ Dr rest st' ∧ ds.length = n ∧ ∀ i, i < n → ∃ d, ds[i]? = some d ∧ P i d := by
  obtain ⟨ds, st', k1, k2, k3, k4⟩ := cRun_draw (g := gN v) (te := te) (env := wipeE e [v]) (acc := []) (fun i : Nat => D.int (0 + (i : Nat))) P (List.range n) (st := st) (fun i st hi hd => by
    obtain ⟨d, st1, a, b, c⟩ := hs i st (by simpa using hi) hd
    exact ⟨_, d, st1, rfl, by rwa [Int.zero_add], b, c⟩) hd (by rw [sizeV, List.length_nil, List.length_range]; omega)
  refine ⟨ds, st', ?_, k2, by rw [k3, List.length_range], fun i hi => ?_⟩
  · rw [x_comp, rg1_of h (by omega) (by omega), bind_ok, Int.toNat_natCast]
    show (match cRun (gN v) tYesM te none (wipeE e [v]) [] _ st with
      | some (acc, st2) => mkL false acc st2
      | none => .bad) = _
    rw [k1]
    rfl
  · have := k4 i (by simpa using hi)
    rwa [List.getElem_range] at this
/-- a list of drawn numbers -/
theorem ints_draw {c cb : EM} {e : En} {v : Nat} {n : Nat} {b : Int} (h : c e st = .ok (.int n) st) (hd : Dr rest st) (hn : n < 2 ^ 20) (hb : 0 < b) (hb2 : b < 2 ^ 62) (he : ∀ (i : Nat) st, i < n → cb ((wipeE e [v]).set v (some (.int i))) st = .ok (.int b) st) (h0 : ∀ (i : Nat) st, mVar 0 ((wipeE e [v]).set v (some (.int i))) st = .ok (.ref 1) st) :
    ∃ (ns : List Int) (st' : Sto), mComp false (iRg1 c) (gN v) [v] tYesM (mCall F__law_any 2 0 [0, 1] (aCons (mVar 0) (aCons cb aNil)) aNil) e st = .ok (.fl (ns.map .int)) st' ∧ Dr rest st' ∧ ns.length = n ∧ ∀ i ∈ ns, 0 ≤ i ∧ i < b := by
  obtain ⟨ds, st', k1, k2, k3, k4⟩ := comp_rg_draw (te := mCall F__law_any 2 0 [0, 1] (aCons (mVar 0) (aCons cb aNil)) aNil) (e := e) (v := v) (fun _ d => ∃ i, d = .int i ∧ 0 ≤ i ∧ i < b) h hd hn (fun i st hi hd => by
    obtain ⟨r, st1, a1, a2, a3, a4⟩ := any_ok hd hb hb2
    refine ⟨.int r, st1, ?_, ⟨r, rfl, a2, a3⟩, a4⟩
    rw [x_call, x_cons, h0, bind_ok, x_cons, he i _ hi]
    (simp only [bind_exc, toS_exc, seq_exc, seq_rt, x_var, x_c, x_bin, x_un, x_fn, x_bm, x_tst, x_notT, x_andT, x_orT, x_if, x_not, x_and, x_or, x_nil, x_cons, x_star, x_tup, x_lst, x_call, x_sl, x_oN, x_oS, x_lrg, x_trg, x_iseq, x_enum, x_zip, x_yes, x_mk, x_mt, x_fld, x_snil, x_set, x_ret, x_sif, x_drop, x_raise, x_asg, x_par, x_asgH, x_hsub, x_sfld, bind_ok, toS_ok, seq_nx, opt_ok, sel_0, sel_1, sel_2, sel_3, sel_nil, mkL_f, mkL_t, f_int, f_add, f_eqI, f_neI, f_abs, f_i1, f_max2, f_min2, f_neg, List.getElem?_cons_succ, List.getElem?_cons_zero, List.set_cons_succ, List.set_cons_zero, List.length_cons, List.length_nil, List.cons_append, List.nil_append, List.map_cons, List.map_nil, List.zip_cons_cons, List.zip_nil_left, List.zip_nil_right, List.foldl_cons, List.foldl_nil, szl, ite_true, ite_false, Nat.zero_add, Nat.reduceAdd, Nat.reduceSub, ↓reduceIte, and_self, and_true, true_and, Bool.not_true, Bool.not_false, Bool.not_not, Bool.false_eq_true, reduceCtorEq, gN, gT, gsNil, gsCons, hName, hTup, hsNil, hsCons, Option.bind_some, Option.map_some, partO, seqv_tup, seqv_fl, decide_true, decide_false, Nat.reduceLeDiff, a1]; try rfl))
  obtain ⟨ns, rfl, hns⟩ := ints_of (ys := ds) (P := fun i => 0 ≤ i ∧ i < b) fun y hy => by
    obtain ⟨i, hi, rfl⟩ := List.getElem_of_mem hy
    obtain ⟨d, a, b⟩ := k4 i (by omega)
    rw [List.getElem?_eq_getElem hi] at a
    cases a
    exact b
  exact ⟨ns, st', k1, k2, by rw [← k3, List.length_map], hns⟩
theorem wide_ok {most : Int} (h : Dr rest st) (hw : wf (rest.length + 2) rest) (h0 : 0 < most) (h1 : most < 2 ^ 18) : ∃ c ss st', F__law_wide [.ref 1, .int most] st = .ok (.tup [.int (c : Nat), .fl (rowsD ss)]) st' ∧ Dr rest st' ∧ Mach c ss ∧ c ≤ 5 ∧ (ss.length : Int) ≤ most := by
  have z : ∃ d st', fnM 6 2 b__law_wide [.ref 1, .int most] st = .ok d st' ∧ ∃ c ss, d = .tup [.int (c : Nat), .fl (rowsD ss)] ∧ Dr rest st' ∧ Mach c ss ∧ c ≤ 5 ∧ (ss.length : Int) ≤ most := by
    refine fn_of [some (.ref 1), some (.int most), none, none, none, none] rfl rfl ?_
    unfold b__law_wide
    obtain ⟨c, ss, st2, b1, b2, b3, b4, b5⟩ := machine_ok h hw h0 h1
    refine sp_step (e1 := [some (.ref 1), some (.int most), some (.int c), some (.fl (rowsD ss)), none, none]) (st1 := st2) (by (simp only [bind_exc, toS_exc, seq_exc, seq_rt, x_var, x_c, x_bin, x_un, x_fn, x_bm, x_tst, x_notT, x_andT, x_orT, x_if, x_not, x_and, x_or, x_nil, x_cons, x_star, x_tup, x_lst, x_call, x_sl, x_oN, x_oS, x_lrg, x_trg, x_iseq, x_enum, x_zip, x_yes, x_mk, x_mt, x_fld, x_snil, x_set, x_ret, x_sif, x_drop, x_raise, x_asg, x_par, x_asgH, x_hsub, x_sfld, bind_ok, toS_ok, seq_nx, opt_ok, sel_0, sel_1, sel_2, sel_3, sel_nil, mkL_f, mkL_t, f_int, f_add, f_eqI, f_neI, f_abs, f_i1, f_max2, f_min2, f_neg, List.getElem?_cons_succ, List.getElem?_cons_zero, List.set_cons_succ, List.set_cons_zero, List.length_cons, List.length_nil, List.cons_append, List.nil_append, List.map_cons, List.map_nil, List.zip_cons_cons, List.zip_nil_left, List.zip_nil_right, List.foldl_cons, List.foldl_nil, szl, ite_true, ite_false, Nat.zero_add, Nat.reduceAdd, Nat.reduceSub, ↓reduceIte, and_self, and_true, true_and, Bool.not_true, Bool.not_false, Bool.not_not, Bool.false_eq_true, reduceCtorEq, gN, gT, gsNil, gsCons, hName, hTup, hsNil, hsCons, Option.bind_some, Option.map_some, partO, seqv_tup, seqv_fl, decide_true, decide_false, Nat.reduceLeDiff, b1]; try rfl)) ?_
    obtain ⟨r, st3, r1, r2, r3, r4⟩ := any_ok b2 (show (0 : Int) < 4 by omega) (by omega)
    have cut : ∀ {cc : Nat} {ss : List (List Int)} {st3 : Sto}, Dr rest st3 → Mach cc ss → cc ≤ 5 → (ss.length : Int) ≤ most → ∃ d' st'', gcD st.length (.tup [.int (cc : Nat), .fl (rowsD ss)]) st3 = .ok d' st'' ∧ ∃ c ss, d' = .tup [.int (c : Nat), .fl (rowsD ss)] ∧ Dr rest st'' ∧ Mach c ss ∧ c ≤ 5 ∧ (ss.length : Int) ≤ most := fun {cc ss st3} hd hm hc hs => ⟨_, _, gcD_same (by rw [hd.len, h.len]), cc, ss, rfl, hd, hm, hc, hs⟩
    by_cases q : 0 < r
    · refine sp_leave (st1 := st3) (by (simp only [bind_exc, toS_exc, seq_exc, seq_rt, x_var, x_c, x_bin, x_un, x_fn, x_bm, x_tst, x_notT, x_andT, x_orT, x_if, x_not, x_and, x_or, x_nil, x_cons, x_star, x_tup, x_lst, x_call, x_sl, x_oN, x_oS, x_lrg, x_trg, x_iseq, x_enum, x_zip, x_yes, x_mk, x_mt, x_fld, x_snil, x_set, x_ret, x_sif, x_drop, x_raise, x_asg, x_par, x_asgH, x_hsub, x_sfld, bind_ok, toS_ok, seq_nx, opt_ok, sel_0, sel_1, sel_2, sel_3, sel_nil, mkL_f, mkL_t, f_int, f_add, f_eqI, f_neI, f_abs, f_i1, f_max2, f_min2, f_neg, List.getElem?_cons_succ, List.getElem?_cons_zero, List.set_cons_succ, List.set_cons_zero, List.length_cons, List.length_nil, List.cons_append, List.nil_append, List.map_cons, List.map_nil, List.zip_cons_cons, List.zip_nil_left, List.zip_nil_right, List.foldl_cons, List.foldl_nil, szl, ite_true, ite_false, Nat.zero_add, Nat.reduceAdd, Nat.reduceSub, ↓reduceIte, and_self, and_true, true_and, Bool.not_true, Bool.not_false, Bool.not_not, Bool.false_eq_true, reduceCtorEq, gN, gT, gsNil, gsCons, hName, hTup, hsNil, hsCons, Option.bind_some, Option.map_some, partO, seqv_tup, seqv_fl, decide_true, decide_false, Nat.reduceLeDiff, r1, decide_eq_true q]; try rfl)) ?_
      exact sp_ret (d := .tup [.int (c : Nat), .fl (rowsD ss)]) (st1 := st3) (by (simp only [bind_exc, toS_exc, seq_exc, seq_rt, x_var, x_c, x_bin, x_un, x_fn, x_bm, x_tst, x_notT, x_andT, x_orT, x_if, x_not, x_and, x_or, x_nil, x_cons, x_star, x_tup, x_lst, x_call, x_sl, x_oN, x_oS, x_lrg, x_trg, x_iseq, x_enum, x_zip, x_yes, x_mk, x_mt, x_fld, x_snil, x_set, x_ret, x_sif, x_drop, x_raise, x_asg, x_par, x_asgH, x_hsub, x_sfld, bind_ok, toS_ok, seq_nx, opt_ok, sel_0, sel_1, sel_2, sel_3, sel_nil, mkL_f, mkL_t, f_int, f_add, f_eqI, f_neI, f_abs, f_i1, f_max2, f_min2, f_neg, List.getElem?_cons_succ, List.getElem?_cons_zero, List.set_cons_succ, List.set_cons_zero, List.length_cons, List.length_nil, List.cons_append, List.nil_append, List.map_cons, List.map_nil, List.zip_cons_cons, List.zip_nil_left, List.zip_nil_right, List.foldl_cons, List.foldl_nil, szl, ite_true, ite_false, Nat.zero_add, Nat.reduceAdd, Nat.reduceSub, ↓reduceIte, and_self, and_true, true_and, Bool.not_true, Bool.not_false, Bool.not_not, Bool.false_eq_true, reduceCtorEq, gN, gT, gsNil, gsCons, hName, hTup, hsNil, hsCons, Option.bind_some, Option.map_some, partO, seqv_tup, seqv_fl, decide_true, decide_false, Nat.reduceLeDiff]; try rfl)) (cut r4 b3 (by omega) b5)
    refine sp_skip (st1 := st3) (by (simp only [bind_exc, toS_exc, seq_exc, seq_rt, x_var, x_c, x_bin, x_un, x_fn, x_bm, x_tst, x_notT, x_andT, x_orT, x_if, x_not, x_and, x_or, x_nil, x_cons, x_star, x_tup, x_lst, x_call, x_sl, x_oN, x_oS, x_lrg, x_trg, x_iseq, x_enum, x_zip, x_yes, x_mk, x_mt, x_fld, x_snil, x_set, x_ret, x_sif, x_drop, x_raise, x_asg, x_par, x_asgH, x_hsub, x_sfld, bind_ok, toS_ok, seq_nx, opt_ok, sel_0, sel_1, sel_2, sel_3, sel_nil, mkL_f, mkL_t, f_int, f_add, f_eqI, f_neI, f_abs, f_i1, f_max2, f_min2, f_neg, List.getElem?_cons_succ, List.getElem?_cons_zero, List.set_cons_succ, List.set_cons_zero, List.length_cons, List.length_nil, List.cons_append, List.nil_append, List.map_cons, List.map_nil, List.zip_cons_cons, List.zip_nil_left, List.zip_nil_right, List.foldl_cons, List.foldl_nil, szl, ite_true, ite_false, Nat.zero_add, Nat.reduceAdd, Nat.reduceSub, ↓reduceIte, and_self, and_true, true_and, Bool.not_true, Bool.not_false, Bool.not_not, Bool.false_eq_true, reduceCtorEq, gN, gT, gsNil, gsCons, hName, hTup, hsNil, hsCons, Option.bind_some, Option.map_some, partO, seqv_tup, seqv_fl, decide_true, decide_false, Nat.reduceLeDiff, r1, decide_eq_false q]; try rfl)) ?_
    have hl : ss.length < 2 ^ 18 := by omega
    have lens : ∀ st : Sto, fLen [.fl (rowsD ss)] st = .ok (.int ss.length) st := fun st => by rw [len_of (ys := rowsD ss) rfl]; unfold rowsD; rw [List.length_map]
    have c5 : (5 : Int) - (c : Int) = ((5 - c : Nat) : Int) := by omega
    have c3 := b3.ne
    obtain ⟨ds, st4, k1, k2, k3, k4⟩ := comp_fl_draw (c := mVar 3) (g := gN 4) (vs := [4]) (te := mBin (fAdd false) (mFn (fList false) (aCons (mVar 4) aNil)) (mComp false (iRg1 (mBin fSub (mC (.int 5)) (mVar 2))) (gN 5) [5] tYesM (mCall F__law_any 2 0 [0, 1] (aCons (mVar 0) (aCons (mFn fLen (aCons (mVar 3) aNil)) aNil)) aNil)))
      (e := [some (.ref 1), some (.int most), some (.int c), some (.fl (rowsD ss)), none, none]) (st := st3) (xs := ss) (fun r => .fl (r.map .int)) (fun r d => ∃ ns : List Int, d = .fl ((r ++ ns).map .int) ∧ ns.length = 5 - c ∧ ∀ i ∈ ns, 0 ≤ i ∧ i < ss.length) (.inl rfl) r4 (by omega) (fun r st hr hd => by
        obtain ⟨ns, st', m1, m2, m3, m4⟩ := ints_draw (c := mBin fSub (mC (.int 5)) (mVar 2)) (cb := mFn fLen (aCons (mVar 3) aNil)) (e := [some (.ref 1), some (.int most), some (.int c), some (.fl (rowsD ss)), some (.fl (r.map .int)), none]) (v := 5) (n := 5 - c) (b := (ss.length : Int)) (by (simp only [bind_exc, toS_exc, seq_exc, seq_rt, x_var, x_c, x_bin, x_un, x_fn, x_bm, x_tst, x_notT, x_andT, x_orT, x_if, x_not, x_and, x_or, x_nil, x_cons, x_star, x_tup, x_lst, x_call, x_sl, x_oN, x_oS, x_lrg, x_trg, x_iseq, x_enum, x_zip, x_yes, x_mk, x_mt, x_fld, x_snil, x_set, x_ret, x_sif, x_drop, x_raise, x_asg, x_par, x_asgH, x_hsub, x_sfld, bind_ok, toS_ok, seq_nx, opt_ok, sel_0, sel_1, sel_2, sel_3, sel_nil, mkL_f, mkL_t, f_int, f_add, f_eqI, f_neI, f_abs, f_i1, f_max2, f_min2, f_neg, List.getElem?_cons_succ, List.getElem?_cons_zero, List.set_cons_succ, List.set_cons_zero, List.length_cons, List.length_nil, List.cons_append, List.nil_append, List.map_cons, List.map_nil, List.zip_cons_cons, List.zip_nil_left, List.zip_nil_right, List.foldl_cons, List.foldl_nil, szl, ite_true, ite_false, Nat.zero_add, Nat.reduceAdd, Nat.reduceSub, ↓reduceIte, and_self, and_true, true_and, Bool.not_true, Bool.not_false, Bool.not_not, Bool.false_eq_true, reduceCtorEq, gN, gT, gsNil, gsCons, hName, hTup, hsNil, hsCons, Option.bind_some, Option.map_some, partO, seqv_tup, seqv_fl, decide_true, decide_false, Nat.reduceLeDiff, fSub, c5]; try rfl)) hd (by omega) (by omega) (by omega) (fun i st hi => by (simp only [bind_exc, toS_exc, seq_exc, seq_rt, x_var, x_c, x_bin, x_un, x_fn, x_bm, x_tst, x_notT, x_andT, x_orT, x_if, x_not, x_and, x_or, x_nil, x_cons, x_star, x_tup, x_lst, x_call, x_sl, x_oN, x_oS, x_lrg, x_trg, x_iseq, x_enum, x_zip, x_yes, x_mk, x_mt, x_fld, x_snil, x_set, x_ret, x_sif, x_drop, x_raise, x_asg, x_par, x_asgH, x_hsub, x_sfld, bind_ok, toS_ok, seq_nx, opt_ok, sel_0, sel_1, sel_2, sel_3, sel_nil, mkL_f, mkL_t, f_int, f_add, f_eqI, f_neI, f_abs, f_i1, f_max2, f_min2, f_neg, List.getElem?_cons_succ, List.getElem?_cons_zero, List.set_cons_succ, List.set_cons_zero, List.length_cons, List.length_nil, List.cons_append, List.nil_append, List.map_cons, List.map_nil, List.zip_cons_cons, List.zip_nil_left, List.zip_nil_right, List.foldl_cons, List.foldl_nil, szl, ite_true, ite_false, Nat.zero_add, Nat.reduceAdd, Nat.reduceSub, ↓reduceIte, and_self, and_true, true_and, Bool.not_true, Bool.not_false, Bool.not_not, Bool.false_eq_true, reduceCtorEq, gN, gT, gsNil, gsCons, hName, hTup, hsNil, hsCons, Option.bind_some, Option.map_some, partO, seqv_tup, seqv_fl, decide_true, decide_false, Nat.reduceLeDiff, wipeE, lens]; try rfl)) (fun i st => rfl)
        have ad : fAdd false (.fl (r.map .int)) (.fl (ns.map .int)) st' = .ok (.fl ((r ++ ns).map .int)) st' := by
          rw [add_lst (xs := r.map .int) (zs := ns.map .int) rfl rfl (by rw [List.length_map, List.length_map, b3.row r hr, m3, sizeV]; omega), List.map_append]
        refine ⟨[some (.ref 1), some (.int most), some (.int c), some (.fl (rowsD ss)), some (.fl (r.map .int)), none], _, st', rfl, ?_, ⟨ns, rfl, m3, m4⟩, m2⟩
        (simp only [bind_exc, toS_exc, seq_exc, seq_rt, x_var, x_c, x_bin, x_un, x_fn, x_bm, x_tst, x_notT, x_andT, x_orT, x_if, x_not, x_and, x_or, x_nil, x_cons, x_star, x_tup, x_lst, x_call, x_sl, x_oN, x_oS, x_lrg, x_trg, x_iseq, x_enum, x_zip, x_yes, x_mk, x_mt, x_fld, x_snil, x_set, x_ret, x_sif, x_drop, x_raise, x_asg, x_par, x_asgH, x_hsub, x_sfld, bind_ok, toS_ok, seq_nx, opt_ok, sel_0, sel_1, sel_2, sel_3, sel_nil, mkL_f, mkL_t, f_int, f_add, f_eqI, f_neI, f_abs, f_i1, f_max2, f_min2, f_neg, List.getElem?_cons_succ, List.getElem?_cons_zero, List.set_cons_succ, List.set_cons_zero, List.length_cons, List.length_nil, List.cons_append, List.nil_append, List.map_cons, List.map_nil, List.zip_cons_cons, List.zip_nil_left, List.zip_nil_right, List.foldl_cons, List.foldl_nil, szl, ite_true, ite_false, Nat.zero_add, Nat.reduceAdd, Nat.reduceSub, ↓reduceIte, and_self, and_true, true_and, Bool.not_true, Bool.not_false, Bool.not_not, Bool.false_eq_true, reduceCtorEq, gN, gT, gsNil, gsCons, hName, hTup, hsNil, hsCons, Option.bind_some, Option.map_some, partO, seqv_tup, seqv_fl, decide_true, decide_false, Nat.reduceLeDiff, list_fl (st := st) (x := .fl (r.map .int)) (ys := r.map .int) rfl, m1, ad]; try rfl))
    obtain ⟨ts, ht, hts⟩ : ∃ ts : List (List Int), ds = rowsD ts ∧ ∀ r ∈ ts, r.length = 5 ∧ ∀ i ∈ r, 0 ≤ i ∧ i < ss.length := by
      have : ∀ y ∈ ds, ∃ r : List Int, y = .fl (r.map .int) ∧ r.length = 5 ∧ ∀ i ∈ r, 0 ≤ i ∧ i < ss.length := fun y hy => by
        obtain ⟨i, hi, rfl⟩ := List.getElem_of_mem hy
        obtain ⟨d, a, ns, hd, n1, n2⟩ := k4 i (by omega)
        rw [List.getElem?_eq_getElem hi] at a
        have a := Option.some.inj a
        rw [a, hd]
        have hr := List.getElem_mem (l := ss) (show i < ss.length by omega)
        refine ⟨_, rfl, by rw [List.length_append, b3.row _ hr, n1]; omega, fun j hj => ?_⟩
        rcases List.mem_append.mp hj with hj | hj
        · exact b3.ok _ hr j hj
        · exact n2 j hj
      clear k1 k3 k4
      induction ds with
      | nil => exact ⟨[], rfl, fun _ h => by cases h⟩
      | cons y ys ih =>
        obtain ⟨r, rfl, h1⟩ := this y List.mem_cons_self
        obtain ⟨ts, rfl, h2⟩ := ih fun z hz => this z (List.mem_cons_of_mem _ hz)
        exact ⟨r :: ts, rfl, fun q hq => by
          rcases List.mem_cons.mp hq with rfl | hq
          · exact h1
          · exact h2 q hq⟩
    have lt : ts.length = ss.length := by rw [← k3, ht]; unfold rowsD; rw [List.length_map]
    subst ht
    have hm : Mach 5 ts := ⟨by omega, by omega, fun r hr => (hts r hr).1, fun r hr i hi => by rw [lt]; exact (hts r hr).2 i hi⟩
    exact sp_ret (d := .tup [.int (5 : Nat), .fl (rowsD ts)]) (st1 := st4) (by (simp only [bind_exc, toS_exc, seq_exc, seq_rt, x_var, x_c, x_bin, x_un, x_fn, x_bm, x_tst, x_notT, x_andT, x_orT, x_if, x_not, x_and, x_or, x_nil, x_cons, x_star, x_tup, x_lst, x_call, x_sl, x_oN, x_oS, x_lrg, x_trg, x_iseq, x_enum, x_zip, x_yes, x_mk, x_mt, x_fld, x_snil, x_set, x_ret, x_sif, x_drop, x_raise, x_asg, x_par, x_asgH, x_hsub, x_sfld, bind_ok, toS_ok, seq_nx, opt_ok, sel_0, sel_1, sel_2, sel_3, sel_nil, mkL_f, mkL_t, f_int, f_add, f_eqI, f_neI, f_abs, f_i1, f_max2, f_min2, f_neg, List.getElem?_cons_succ, List.getElem?_cons_zero, List.set_cons_succ, List.set_cons_zero, List.length_cons, List.length_nil, List.cons_append, List.nil_append, List.map_cons, List.map_nil, List.zip_cons_cons, List.zip_nil_left, List.zip_nil_right, List.foldl_cons, List.foldl_nil, szl, ite_true, ite_false, Nat.zero_add, Nat.reduceAdd, Nat.reduceSub, ↓reduceIte, and_self, and_true, true_and, Bool.not_true, Bool.not_false, Bool.not_not, Bool.false_eq_true, reduceCtorEq, gN, gT, gsNil, gsCons, hName, hTup, hsNil, hsCons, Option.bind_some, Option.map_some, partO, seqv_tup, seqv_fl, decide_true, decide_false, Nat.reduceLeDiff, k1]; try rfl)) (cut k2 hm (by omega) (by omega))
  obtain ⟨d, st', h1, c, ss, rfl, h2⟩ := z
  exact ⟨c, ss, st', h1, h2⟩
end
/-! ### slips in order -/
open SrtO
theorem perm_slipsD {hs : List (Int × Int)} {ys : List D} (h : (hs.map slipD).Perm ys) : ∃ gs : List (Int × Int), ys = gs.map slipD ∧ gs.Perm hs := by
  have this : ∀ y ∈ ys, slipD (prK y) = y := fun y hy => by
    obtain ⟨p, _, rfl⟩ := List.mem_map.mp (h.symm.subset hy)
    rfl
  refine ⟨ys.map prK, ?_, ?_⟩
  · rw [List.map_map]
    exact ((List.map_congr_left (g := id) this).trans (List.map_id ys)).symm
  · have h2 := (h.map prK).symm
    rw [List.map_map] at h2
    have e : hs.map (prK ∘ slipD) = hs := (List.map_congr_left (g := id) fun p _ => rfl).trans (List.map_id hs)
    rwa [e] at h2
theorem sort_put {hs : List (Int × Int)} (hn : (hs.map (·.1)).Nodup) : ∃ zs : List (Int × Int), isS ltPD (hs.map slipD) = zs.map slipD ∧ zs.Perm hs ∧ zs.Pairwise fun p q => p.1 < q.1 := by
  obtain ⟨zs, h1, h2⟩ := perm_slipsD (isS_perm (lt := ltPD) (hs.map slipD)).symm
  refine ⟨zs, h1, h2, ?_⟩
  have h3 := isS_srtd swo_ltPD (hs.map slipD)
  rw [h1] at h3
  have h4 : zs.Pairwise fun p q => ltPD (slipD q) (slipD p) = false := List.pairwise_map.mp h3
  have h5 : zs.Pairwise fun p q => p.1 ≠ q.1 := by
    have h6 : (zs.map (·.1)).Nodup := ((h2.map (·.1)).nodup_iff).mpr hn
    exact List.pairwise_map.mp h6
  refine (h4.and h5).imp fun {p q} h => ?_
  obtain ⟨a, b⟩ := h
  have a : lexB q p = false := a
  unfold lexB at a
  rw [if_neg (by omega)] at a
  have := of_decide_eq_false a
  omega
theorem asc_uniq {hs gs : List (Int × Int)} (hp : hs.Perm gs) (h1 : hs.Pairwise fun p q => p.1 < q.1) (h2 : gs.Pairwise fun p q => p.1 < q.1) : hs = gs :=
  hp.eq_of_pairwise (le := fun p q => p.1 < q.1) (fun a b _ _ h1 h2 => by omega) h1 h2
end Mi

namespace K03
open PySem L2 Mi
def top (i : Nat) : Stmt := PySem.Challenge.pw_slipslater_k03_heaps_of_slips.main.body.getD i (.Pass ⟨0, 0, 0, 0⟩)
def fldT : List (Str × Str) := [("Machine", "commands"), ("Machine", "states"), ("Machine", "steps"), ("Machine", "_found")]
def excT : List (Str × Str × Bool) := [("InvalidMachine", "InvalidMachine", true), ("InvalidMachine", "InvalidSlip", false), ("InvalidMachine", "Refused", false), ("InvalidSlip", "InvalidMachine", false), ("InvalidSlip", "InvalidSlip", true), ("InvalidSlip", "Refused", false), ("Refused", "InvalidMachine", false), ("Refused", "InvalidSlip", false), ("Refused", "Refused", true)]
def subT : Str → Str → Option Bool := subOf excT
abbrev s_is_integer : Stmt := (top 7)
theorem sc_is_integer : FnScope ["value"] ["value"] (defScope s_is_integer) := ⟨rfl, rfl, rfl, by decide +kernel, rfl, by decide +kernel, by decide +kernel⟩
noncomputable def b_is_integer : SM := (sRet (mAnd (mUn (fIsi ["int"]) (mVar 0)) (mNot (mUn (fIsi ["bool"]) (mVar 0)))))
noncomputable def F_is_integer : List D → Sto → Out D := fnM 1 1 b_is_integer
abbrev s_is_number : Stmt := (top 8)
theorem sc_is_number : FnScope ["value"] ["value"] (defScope s_is_number) := ⟨rfl, rfl, rfl, by decide +kernel, rfl, by decide +kernel, by decide +kernel⟩
noncomputable def b_is_number : SM := (sRet (mAnd (mCall F_is_integer 1 0 [0] (aCons (mVar 0) aNil) aNil) (mBin fGe (mVar 0) (mC (.int 0)))))
noncomputable def F_is_number : List D → Sto → Out D := fnM 1 1 b_is_number
abbrev s_is_index : Stmt := (top 9)
theorem sc_is_index : FnScope ["value", "many"] ["value", "many"] (defScope s_is_index) := ⟨rfl, rfl, rfl, by decide +kernel, rfl, by decide +kernel, by decide +kernel⟩
noncomputable def b_is_index : SM := (sRet (mAnd (mCall F_is_number 1 0 [0] (aCons (mVar 0) aNil) aNil) (mBin fLt (mVar 0) (mVar 1))))
noncomputable def F_is_index : List D → Sto → Out D := fnM 2 2 b_is_index
abbrev s_is_sequence : Stmt := (top 10)
theorem sc_is_sequence : FnScope ["value"] ["value"] (defScope s_is_sequence) := ⟨rfl, rfl, rfl, by decide +kernel, rfl, by decide +kernel, by decide +kernel⟩
noncomputable def b_is_sequence : SM := (sRet (mUn (fIsi ["list", "tuple"]) (mVar 0)))
noncomputable def F_is_sequence : List D → Sto → Out D := fnM 1 1 b_is_sequence
abbrev s_Machine___init__ : Stmt := (inClass (top 12) 0)
theorem sc_Machine___init__ : FnScope ["self", "commands", "steps", "state", "row", "to"] ["self", "commands", "steps"] (defScope s_Machine___init__) := ⟨rfl, rfl, rfl, by decide +kernel, rfl, by decide +kernel, by decide +kernel⟩
noncomputable def b_Machine___init__ : SM := (sSeq (sIf (mOrT (mNotT (mTst (mCall F_is_number 1 0 [0] (aCons (mVar 1) aNil) aNil))) (mTst (mBin (fEq false) (mVar 1) (mC (.int 0))))) (sRaise "InvalidMachine" (mC (.int 0))) sNil)
    (sSeq (sIf (mOrT (mNotT (mTst (mCall F_is_sequence 1 0 [0] (aCons (mVar 2) aNil) aNil))) (mTst (mBin (fEq false) (mFn fLen (aCons (mVar 2) aNil)) (mC (.int 0))))) (sRaise "InvalidMachine" (mC (.int 1))) sNil)
    (sSeq (sFor (iEnum (mVar 2)) (gT 2 (gsCons (gN 3) (gsCons (gN 4) gsNil))) (sIf (mOrT (mNotT (mTst (mCall F_is_sequence 1 0 [0] (aCons (mVar 4) aNil) aNil))) (mOrT (mTst (mBin (fEq true) (mFn fLen (aCons (mVar 4) aNil)) (mVar 1))) (mNotT (mTst (mFn fAll (aCons (mComp false (iSeq (mVar 4)) (gN 5) [5] tYesM (mCall F_is_index 2 0 [0, 1] (aCons (mVar 5) (aCons (mFn fLen (aCons (mVar 2) aNil)) aNil)) aNil)) aNil)))))) (sRaise "InvalidMachine" (mBin (fAdd false) (mC (.int 2)) (mVar 3))) sNil))
    (sSeq (sFld fldT "commands" (mVar 0) (mVar 1))
    (sSeq (sFld fldT "states" (mVar 0) (mFn fLen (aCons (mVar 2) aNil)))
    (sSeq (sFld fldT "steps" (mVar 0) (mFn fTuple (aCons (mComp false (iSeq (mVar 2)) (gN 4) [4] tYesM (mFn fTuple (aCons (mVar 4) aNil))) aNil)))
    (sFld fldT "_found" (mVar 0) mDk)))))))
noncomputable def F_Machine___init__ : List D → Sto → Out D := fnM 6 3 b_Machine___init__
abbrev s_led : Stmt := (top 13)
theorem sc_led : FnScope ["machine", "state", "row", "command"] ["machine", "state", "row"] (defScope s_led) := ⟨rfl, rfl, rfl, by decide +kernel, rfl, by decide +kernel, by decide +kernel⟩
noncomputable def b_led : SM := (sSeq (sFor (iSeq (mVar 2)) (gN 3) (sSet 1 (mBin fIxA (mBin fIxA (mFld fldT "steps" (mVar 0)) (mVar 1)) (mVar 3))))
    (sRet (mVar 1)))
noncomputable def F_led : List D → Sto → Out D := fnM 4 3 b_led
abbrev s_is_slip : Stmt := (top 15)
theorem sc_is_slip : FnScope ["machine", "value"] ["machine", "value"] (defScope s_is_slip) := ⟨rfl, rfl, rfl, by decide +kernel, rfl, by decide +kernel, by decide +kernel⟩
noncomputable def b_is_slip : SM := (sSeq (sIf (mOrT (mNotT (mTst (mUn (fIsi ["tuple"]) (mVar 1)))) (mTst (mBin (fEq true) (mFn fLen (aCons (mVar 1) aNil)) (mC (.int 2))))) (sRet (mC (.bl false))) sNil)
    (sRet (mAnd (mCall F_is_number 1 0 [0] (aCons (mBin fIxA (mVar 1) (mC (.int 0))) aNil) aNil) (mCall F_is_index 2 0 [0, 1] (aCons (mBin fIxA (mVar 1) (mC (.int 1))) (aCons (mFld fldT "commands" (mVar 0)) aNil)) aNil))))
noncomputable def F_is_slip : List D → Sto → Out D := fnM 2 2 b_is_slip
abbrev s_checked_slip : Stmt := (top 16)
theorem sc_checked_slip : FnScope ["machine", "value"] ["machine", "value"] (defScope s_checked_slip) := ⟨rfl, rfl, rfl, by decide +kernel, rfl, by decide +kernel, by decide +kernel⟩
noncomputable def b_checked_slip : SM := (sSeq (sIf (mNotT (mTst (mCall F_is_slip 2 0 [0, 1] (aCons (mVar 0) (aCons (mVar 1) aNil)) aNil))) (sRaise "InvalidSlip" (mC (.int 0))) sNil)
    (sRet (mVar 1)))
noncomputable def F_checked_slip : List D → Sto → Out D := fnM 2 2 b_checked_slip
abbrev s_checked_heap : Stmt := (top 17)
theorem sc_checked_heap : FnScope ["machine", "value", "times", "at", "slip"] ["machine", "value"] (defScope s_checked_heap) := ⟨rfl, rfl, rfl, by decide +kernel, rfl, by decide +kernel, by decide +kernel⟩
noncomputable def b_checked_heap : SM := (sSeq (sIf (mNotT (mTst (mCall F_is_sequence 1 0 [0] (aCons (mVar 1) aNil) aNil))) (sRaise "InvalidSlip" (mC (.int 0))) sNil)
    (sSeq (sSet 2 mDk)
    (sSeq (sFor (iEnum (mVar 1)) (gT 2 (gsCons (gN 3) (gsCons (gN 4) gsNil))) (sSeq (sIf (mOrT (mNotT (mTst (mCall F_is_slip 2 0 [0, 1] (aCons (mVar 0) (aCons (mVar 4) aNil)) aNil))) (mTst (mBin (fInA false) (mBin fIxA (mVar 4) (mC (.int 0))) (mVar 2)))) (sRaise "InvalidSlip" (mVar 3)) sNil)
    (sAsgH (hSubA (mVar 2) (mBin fIxA (mVar 4) (mC (.int 0)))) (mC (.bl true)))))
    (sRet (mFn fTuple (aCons (mFn (fSorted false) (aCons (mVar 1) aNil)) aNil))))))
noncomputable def F_checked_heap : List D → Sto → Out D := fnM 5 2 b_checked_heap
abbrev s_row_of : Stmt := (top 18)
theorem sc_row_of : FnScope ["machine", "heap", "time", "command"] ["machine", "heap"] (defScope s_row_of) := ⟨rfl, rfl, rfl, by decide +kernel, rfl, by decide +kernel, by decide +kernel⟩
noncomputable def b_row_of : SM := (sRet (mFn fTuple (aCons (mComp false (iSeq (mCall F_checked_heap 2 0 [0, 1] (aCons (mVar 0) (aCons (mVar 1) aNil)) aNil)) (gT 2 (gsCons (gN 2) (gsCons (gN 3) gsNil))) [2, 3] tYesM (mVar 3)) aNil)))
noncomputable def F_row_of : List D → Sto → Out D := fnM 4 2 b_row_of
abbrev s_put_in : Stmt := (top 19)
theorem sc_put_in : FnScope ["machine", "heap", "slip", "some", "late", "time", "command"] ["machine", "heap", "slip"] (defScope s_put_in) := ⟨rfl, rfl, rfl, by decide +kernel, rfl, by decide +kernel, by decide +kernel⟩
noncomputable def b_put_in : SM := (sSeq (sPar [3, 4] (aCons (mCall F_checked_heap 2 0 [0, 1] (aCons (mVar 0) (aCons (mVar 1) aNil)) aNil) (aCons (mCall F_checked_slip 2 0 [0, 1] (aCons (mVar 0) (aCons (mVar 2) aNil)) aNil) aNil)))
    (sSeq (sIf (mTst (mBin (fInA false) (mBin fIxA (mVar 4) (mC (.int 0))) (mComp false (iSeq (mVar 3)) (gT 2 (gsCons (gN 5) (gsCons (gN 6) gsNil))) [5, 6] tYesM (mVar 5)))) (sRaise "Refused" (mC (.int 0))) sNil)
    (sRet (mFn fTuple (aCons (mFn (fSorted false) (aCons (mLst false (aStar (mVar 3) (aCons (mVar 4) aNil))) aNil)) aNil)))))
noncomputable def F_put_in : List D → Sto → Out D := fnM 7 3 b_put_in
abbrev s_since : Stmt := (top 20)
theorem sc_since : FnScope ["machine", "heap", "time", "slip"] ["machine", "heap", "time"] (defScope s_since) := ⟨rfl, rfl, rfl, by decide +kernel, rfl, by decide +kernel, by decide +kernel⟩
noncomputable def b_since : SM := (sRet (mFn fTuple (aCons (mComp false (iSeq (mCall F_checked_heap 2 0 [0, 1] (aCons (mVar 0) (aCons (mVar 1) aNil)) aNil)) (gN 3) [3] (mTst (mBin fGt (mBin fIxA (mVar 3) (mC (.int 0))) (mVar 2))) (mVar 3)) aNil)))
noncomputable def F_since : List D → Sto → Out D := fnM 4 3 b_since
abbrev s_until : Stmt := (top 21)
theorem sc_until : FnScope ["machine", "heap", "time", "slip"] ["machine", "heap", "time"] (defScope s_until) := ⟨rfl, rfl, rfl, by decide +kernel, rfl, by decide +kernel, by decide +kernel⟩
noncomputable def b_until : SM := (sRet (mFn fTuple (aCons (mComp false (iSeq (mCall F_checked_heap 2 0 [0, 1] (aCons (mVar 0) (aCons (mVar 1) aNil)) aNil)) (gN 3) [3] (mTst (mBin fLt (mBin fIxA (mVar 3) (mC (.int 0))) (mVar 2))) (mVar 3)) aNil)))
noncomputable def F_until : List D → Sto → Out D := fnM 4 3 b_until
abbrev s_truth : Stmt := (top 22)
theorem sc_truth : FnScope ["machine", "state", "heap"] ["machine", "state", "heap"] (defScope s_truth) := ⟨rfl, rfl, rfl, by decide +kernel, rfl, by decide +kernel, by decide +kernel⟩
noncomputable def b_truth : SM := (sSeq (sIf (mNotT (mTst (mCall F_is_index 2 0 [0, 1] (aCons (mVar 1) (aCons (mFld fldT "states" (mVar 0)) aNil)) aNil))) (sRaise "Refused" (mC (.int 0))) sNil)
    (sRet (mCall F_led 3 0 [0, 1, 2] (aCons (mVar 0) (aCons (mVar 1) (aCons (mCall F_row_of 2 0 [0, 1] (aCons (mVar 0) (aCons (mVar 2) aNil)) aNil) aNil))) aNil)))
noncomputable def F_truth : List D → Sto → Out D := fnM 3 3 b_truth
abbrev s__law_draw : Stmt := (top 24)
theorem sc__law_draw : FnScope ["script", "salt", "cells", "blend", "cell"] ["script", "salt"] (defScope s__law_draw) := ⟨rfl, rfl, rfl, by decide +kernel, rfl, by decide +kernel, by decide +kernel⟩
noncomputable def b__law_draw : SM := (sSeq (sSet 2 (mComp false (iSeq (mSl false (mVar 0) oNone (oSome (mC (.int 48))))) (gN 4) [4] tYesM (mFn fAbs (aCons (mFn fInt1 (aCons (mVar 4) aNil)) aNil))))
    (sSeq (sSet 3 (mBin (fAdd false) (mC (.int 7919)) (mBin (fMul false) (mC (.int 104729)) (mVar 1))))
    (sSeq (sFor (iSeq (mVar 2)) (gN 4) (sSet 3 (mBin fMod (mFn fInt1 (aCons (mBin (fAdd false) (mBin (fAdd false) (mBin (fMul false) (mVar 3) (mC (.int 48271))) (mBin fMod (mVar 4) (mC (.int 2147483549)))) (mC (.int 11))) aNil)) (mC (.int 2147483647)))))
    (sRet (mLst true (aCons (mUn (fRev true) (mComp false (iSeq (mVar 2)) (gN 4) [4] (mTst (mBin fGe (mVar 4) (mBin fPow (mC (.int 10)) (mC (.int 18))))) (mVar 4))) (aCons (mVar 3) aNil)))))))
noncomputable def F__law_draw : List D → Sto → Out D := fnM 5 2 b__law_draw
abbrev s__law_any : Stmt := (top 25)
theorem sc__law_any : FnScope ["deal", "bound", "rest"] ["deal", "bound"] (defScope s__law_any) := ⟨rfl, rfl, rfl, by decide +kernel, rfl, by decide +kernel, by decide +kernel⟩
noncomputable def b__law_any : SM := (sSeq (sWhile (mAndT (mTst (mBin (fEq true) (mBin fIxA (mVar 0) (mC (.int 0))) (mLst false aNil))) (mTst (mBin (fEq false) (mBin fIxA (mBin fIxA (mVar 0) (mC (.int 0))) (mUn fNeg (mC (.int 1)))) (mC (.int 0))))) (sDrop (mBM fPop (mBin fIxA (mVar 0) (mC (.int 0))) aNil)))
    (sSeq (sIf (mTst (mBin (fEq true) (mBin fIxA (mVar 0) (mC (.int 0))) (mLst false aNil))) (sSeq (sSet 2 (mFn fInt1 (aCons (mBM fPop (mBin fIxA (mVar 0) (mC (.int 0))) aNil) aNil)))
    (sSeq (sDrop (mBM fAppend (mBin fIxA (mVar 0) (mC (.int 0))) (aCons (mBin fDiv (mVar 2) (mVar 1)) aNil)))
    (sRet (mBin fMod (mVar 2) (mVar 1))))) sNil)
    (sSeq (sAsgH (hSubA (mVar 0) (mC (.int 1))) (mBin fMod (mFn fInt1 (aCons (mBin (fAdd false) (mBin (fMul false) (mBin fIxA (mVar 0) (mC (.int 1))) (mC (.int 40693))) (mC (.int 71))) aNil)) (mC (.int 2147483647))))
    (sRet (mBin fMod (mFn fInt1 (aCons (mBin fDiv (mBin fIxA (mVar 0) (mC (.int 1))) (mC (.int 64))) aNil)) (mVar 1))))))
noncomputable def F__law_any : List D → Sto → Out D := fnM 3 2 b__law_any
abbrev s__law_of : Stmt := (top 26)
theorem sc__law_of : FnScope ["deal", "some"] ["deal", "some"] (defScope s__law_of) := ⟨rfl, rfl, rfl, by decide +kernel, rfl, by decide +kernel, by decide +kernel⟩
noncomputable def b__law_of : SM := (sRet (mBin fIxA (mVar 1) (mCall F__law_any 2 0 [0, 1] (aCons (mVar 0) (aCons (mFn fLen (aCons (mVar 1) aNil)) aNil)) aNil)))
noncomputable def F__law_of : List D → Sto → Out D := fnM 2 2 b__law_of
abbrev s__law_mixed : Stmt := (top 27)
theorem sc__law_mixed : FnScope ["deal", "some", "left", "found"] ["deal", "some"] (defScope s__law_mixed) := ⟨rfl, rfl, rfl, by decide +kernel, rfl, by decide +kernel, by decide +kernel⟩
noncomputable def b__law_mixed : SM := (sSeq (sPar [2, 3] (aCons (mFn (fList true) (aCons (mVar 1) aNil)) (aCons (mLst true aNil) aNil)))
    (sSeq (sWhile (mTst (mBin (fEq true) (mVar 2) (mLst false aNil))) (sDrop (mBM fAppend (mVar 3) (aCons (mBM fPop (mVar 2) (aCons (mCall F__law_any 2 0 [0, 1] (aCons (mVar 0) (aCons (mFn fLen (aCons (mVar 2) aNil)) aNil)) aNil) aNil)) aNil))))
    (sRet (mVar 3))))
noncomputable def F__law_mixed : List D → Sto → Out D := fnM 4 2 b__law_mixed
abbrev s__law_columns : Stmt := (top 28)
theorem sc__law_columns : FnScope ["columns", "state", "column"] ["columns"] (defScope s__law_columns) := ⟨rfl, rfl, rfl, by decide +kernel, rfl, by decide +kernel, by decide +kernel⟩
noncomputable def b__law_columns : SM := (sRet (mComp false (iRg1 (mFn fLen (aCons (mBin fIxA (mVar 0) (mC (.int 0))) aNil))) (gN 1) [1] tYesM (mComp false (iSeq (mVar 0)) (gN 2) [2] tYesM (mBin fIxA (mVar 2) (mVar 1)))))
noncomputable def F__law_columns : List D → Sto → Out D := fnM 3 1 b__law_columns
abbrev s__law_column : Stmt := (top 29)
theorem sc__law_column : FnScope ["deal", "form", "many", "to", "half", "state"] ["deal", "form", "many"] (defScope s__law_column) := ⟨rfl, rfl, rfl, by decide +kernel, rfl, by decide +kernel, by decide +kernel⟩
noncomputable def b__law_column : SM := (sSeq (sSet 3 (mCall F__law_any 2 0 [0, 1] (aCons (mVar 0) (aCons (mVar 2) aNil)) aNil))
    (sSeq (sIf (mTst (mBin (fEq false) (mVar 1) (mC (.int 0)))) (sRet (mComp false (iRg1 (mVar 2)) (gN 5) [5] tYesM (mBin fMod (mFn fInt1 (aCons (mBin (fAdd false) (mVar 5) (mVar 3)) aNil)) (mVar 2)))) sNil)
    (sSeq (sIf (mTst (mBin (fEq false) (mVar 1) (mC (.int 1)))) (sRet (mBin (fMul false) (mLst false (aCons (mVar 3) aNil)) (mVar 2))) sNil)
    (sSeq (sIf (mTst (mBin (fEq false) (mVar 1) (mC (.int 2)))) (sRet (mComp false (iRg1 (mVar 2)) (gN 5) [5] tYesM (mIf (mTst (mBin (fEq false) (mVar 5) (mC (.int 0)))) (mVar 3) (mVar 5)))) sNil)
    (sSeq (sIf (mTst (mBin (fEq false) (mVar 1) (mC (.int 3)))) (sRet (mComp false (iRg1 (mVar 2)) (gN 5) [5] tYesM (mFn fMax2 (aCons (mC (.int 0)) (aCons (mFn fMin2 (aCons (mBin fSub (mVar 2) (mC (.int 1))) (aCons (mBin fSub (mBin (fAdd false) (mVar 5) (mVar 3)) (mC (.int 1))) aNil))) aNil))))) sNil)
    (sSeq (sIf (mTst (mBin (fEq false) (mVar 1) (mC (.int 4)))) (sRet (mCall F__law_mixed 2 0 [0, 1] (aCons (mVar 0) (aCons (mLstRg false (iRg1 (mVar 2))) aNil)) aNil)) sNil)
    (sSeq (sIf (mTst (mBin (fEq false) (mVar 1) (mC (.int 5)))) (sRet (mComp false (iRg1 (mVar 2)) (gN 5) [5] tYesM (mFn fMax2 (aCons (mVar 5) (aCons (mVar 3) aNil))))) sNil)
    (sSeq (sIf (mTst (mBin (fEq false) (mVar 1) (mC (.int 6)))) (sSeq (sSet 4 (mFn fMax2 (aCons (mC (.int 1)) (aCons (mBin fDiv (mVar 2) (mC (.int 2))) aNil))))
    (sRet (mComp false (iRg1 (mVar 2)) (gN 5) [5] tYesM (mBin (fAdd false) (mBin fMod (mFn fInt1 (aCons (mBin (fAdd false) (mVar 5) (mVar 3)) aNil)) (mVar 4)) (mIf (mAndT (mTst (mBin fGe (mVar 5) (mVar 4))) (mTst (mBin fLe (mBin (fMul false) (mC (.int 2)) (mVar 4)) (mVar 2)))) (mVar 4) (mC (.int 0))))))) sNil)
    (sRet (mComp false (iRg1 (mVar 2)) (gN 5) [5] tYesM (mCall F__law_any 2 0 [0, 1] (aCons (mVar 0) (aCons (mVar 2) aNil)) aNil)))))))))))
noncomputable def F__law_column : List D → Sto → Out D := fnM 6 3 b__law_column
abbrev s__law_machine : Stmt := (top 30)
theorem sc__law_machine : FnScope ["deal", "most", "form", "commands", "one", "other", "many", "columns", "command", "kind", "s"] ["deal", "most"] (defScope s__law_machine) := ⟨rfl, rfl, rfl, by decide +kernel, rfl, by decide +kernel, by decide +kernel⟩
noncomputable def b__law_machine : SM := (sSeq (sPar [2, 3] (aCons (mCall F__law_any 2 0 [0, 1] (aCons (mVar 0) (aCons (mC (.int 12)) aNil)) aNil) (aCons (mCall F__law_of 2 0 [0, 1] (aCons (mVar 0) (aCons (mLst false (aCons (mC (.int 1)) (aCons (mC (.int 2)) (aCons (mC (.int 2)) (aCons (mC (.int 2)) (aCons (mC (.int 3)) aNil)))))) aNil)) aNil) aNil)))
    (sSeq (sIf (mAndT (mTst (mBin (fEq false) (mVar 2) (mC (.int 10)))) (mTst (mBin fGt (mVar 1) (mC (.int 3))))) (sRet (mTup (aCons (mC (.int 2)) (aCons (mLst false (aCons (mLst false (aCons (mC (.int 0)) (aCons (mC (.int 1)) aNil))) (aCons (mLst false (aCons (mC (.int 2)) (aCons (mC (.int 3)) aNil))) (aCons (mLst false (aCons (mC (.int 0)) (aCons (mC (.int 1)) aNil))) (aCons (mLst false (aCons (mC (.int 2)) (aCons (mC (.int 3)) aNil))) aNil))))) aNil)))) sNil)
    (sSeq (sIf (mAndT (mTst (mBin (fEq false) (mVar 2) (mC (.int 11)))) (mTst (mBin fGt (mVar 1) (mC (.int 3))))) (sSeq (sAsg (gT 2 (gsCons (gN 4) (gsCons (gN 5) gsNil))) (mTup (aCons (mCall F__law_any 2 0 [0, 1] (aCons (mVar 0) (aCons (mC (.int 2)) aNil)) aNil) (aCons (mCall F__law_of 2 0 [0, 1] (aCons (mVar 0) (aCons (mLst false (aCons (mC (.int 1)) (aCons (mC (.int 3)) aNil))) aNil)) aNil) aNil))))
    (sRet (mTup (aCons (mC (.int 2)) (aCons (mComp false (iRg1 (mC (.int 4))) (gN 10) [10] tYesM (mLst false (aCons (mBin (fAdd false) (mBin (fMul false) (mC (.int 2)) (mBin fDiv (mVar 10) (mC (.int 2)))) (mVar 4)) (aCons (mIf (mTst (mBin (fEq false) (mBin fMod (mVar 10) (mC (.int 2))) (mC (.int 0)))) (mBin fMod (mFn fInt1 (aCons (mBin (fAdd false) (mVar 10) (mVar 5)) aNil)) (mC (.int 4))) (mBin fMod (mFn fInt1 (aCons (mBin (fAdd false) (mVar 10) (mC (.int 2))) aNil)) (mC (.int 4)))) aNil)))) aNil))))) sNil)
    (sSeq (sPar [6, 7] (aCons (mBin (fAdd false) (mC (.int 1)) (mCall F__law_any 2 0 [0, 1] (aCons (mVar 0) (aCons (mVar 1) aNil)) aNil)) (aCons (mLst true aNil) aNil)))
    (sSeq (sFor (iRg1 (mVar 3)) (gN 8) (sSeq (sSet 9 (mIf (mTst (mBin fGt (mVar 2) (mC (.int 7)))) (mCall F__law_any 2 0 [0, 1] (aCons (mVar 0) (aCons (mC (.int 8)) aNil)) aNil) (mVar 2)))
    (sDrop (mBM fAppend (mVar 7) (aCons (mCall F__law_column 3 0 [0, 1, 2] (aCons (mVar 0) (aCons (mVar 9) (aCons (mVar 6) aNil))) aNil) aNil)))))
    (sRet (mTup (aCons (mVar 3) (aCons (mCall F__law_columns 1 0 [0] (aCons (mVar 7) aNil) aNil) aNil)))))))))
noncomputable def F__law_machine : List D → Sto → Out D := fnM 11 2 b__law_machine
abbrev s__law_led : Stmt := (top 31)
theorem sc__law_led : FnScope ["steps", "state", "row", "command"] ["steps", "state", "row"] (defScope s__law_led) := ⟨rfl, rfl, rfl, by decide +kernel, rfl, by decide +kernel, by decide +kernel⟩
noncomputable def b__law_led : SM := (sSeq (sFor (iSeq (mVar 2)) (gN 3) (sSet 1 (mBin fIxA (mBin fIxA (mVar 0) (mVar 1)) (mVar 3))))
    (sRet (mVar 1)))
noncomputable def F__law_led : List D → Sto → Out D := fnM 4 3 b__law_led
abbrev s__law_heap : Stmt := (top 32)
theorem sc__law_heap : FnScope ["deal", "commands", "many", "time", "found", "turn"] ["deal", "commands", "many"] (defScope s__law_heap) := ⟨rfl, rfl, rfl, by decide +kernel, rfl, by decide +kernel, by decide +kernel⟩
noncomputable def b__law_heap : SM := (sSeq (sPar [3, 4] (aCons (mCall F__law_any 2 0 [0, 1] (aCons (mVar 0) (aCons (mC (.int 4)) aNil)) aNil) (aCons (mLst true aNil) aNil)))
    (sSeq (sFor (iRg1 (mVar 2)) (gN 5) (sSeq (sDrop (mBM fAppend (mVar 4) (aCons (mTup (aCons (mVar 3) (aCons (mCall F__law_any 2 0 [0, 1] (aCons (mVar 0) (aCons (mVar 1) aNil)) aNil) aNil))) aNil)))
    (sSet 3 (mBin (fAdd false) (mBin (fAdd false) (mVar 3) (mC (.int 1))) (mCall F__law_any 2 0 [0, 1] (aCons (mVar 0) (aCons (mC (.int 3)) aNil)) aNil)))))
    (sRet (mFn fTuple (aCons (mVar 4) aNil)))))
noncomputable def F__law_heap : List D → Sto → Out D := fnM 6 3 b__law_heap
abbrev s__law_asked : Stmt := (top 33)
theorem sc__law_asked : FnScope ["machine", "form", "heap", "other", "wrong"] ["machine", "form", "heap", "other"] (defScope s__law_asked) := ⟨rfl, rfl, rfl, by decide +kernel, rfl, by decide +kernel, by decide +kernel⟩
noncomputable def b__law_asked : SM := (sTry subT (sSeq (sIf (mTst (mBin (fEq false) (mVar 1) (mC (.int 0)))) (sRet (mTup (aCons (mC (.str "told")) (aCons (mCall F_checked_heap 0 2 [1, 0] aNil (aCons (mVar 2) (aCons (mVar 0) aNil))) aNil)))) sNil)
    (sSeq (sIf (mTst (mBin (fEq false) (mVar 1) (mC (.int 1)))) (sRet (mTup (aCons (mC (.str "told")) (aCons (mCall F_put_in 0 3 [2, 1, 0] aNil (aCons (mVar 3) (aCons (mVar 2) (aCons (mVar 0) aNil)))) aNil)))) sNil)
    (sSeq (sIf (mTst (mBin (fEq false) (mVar 1) (mC (.int 2)))) (sRet (mTup (aCons (mC (.str "told")) (aCons (mCall F_row_of 0 2 [1, 0] aNil (aCons (mVar 2) (aCons (mVar 0) aNil))) aNil)))) sNil)
    (sRet (mTup (aCons (mC (.str "told")) (aCons (mIf (mTst (mBin (fEq false) (mVar 1) (mC (.int 3)))) (mCall F_truth 0 3 [2, 1, 0] aNil (aCons (mVar 2) (aCons (mVar 3) (aCons (mVar 0) aNil)))) (mCall F_checked_slip 0 2 [1, 0] aNil (aCons (mVar 3) (aCons (mVar 0) aNil)))) aNil))))))) (("InvalidSlip", some 4, (sRet (mTup (aCons (mC (.str "slip")) (aCons (mVar 4) aNil))))) :: (("Refused", some 4, (sRet (mTup (aCons (mC (.str "refused")) (aCons (mVar 4) aNil))))) :: [])))
noncomputable def F__law_asked : List D → Sto → Out D := fnM 5 4 b__law_asked
abbrev s__law_bad_slip : Stmt := (top 34)
theorem sc__law_bad_slip : FnScope ["deal", "commands", "odd"] ["deal", "commands"] (defScope s__law_bad_slip) := ⟨rfl, rfl, rfl, by decide +kernel, rfl, by decide +kernel, by decide +kernel⟩
noncomputable def b__law_bad_slip : SM := (sSeq (sSet 2 (mLst false (aCons (mLst false (aCons (mC (.int 0)) (aCons (mC (.int 0)) aNil))) (aCons (mTup (aCons (mC (.int 0)) aNil)) (aCons (mTup (aCons (mC (.int 0)) (aCons (mC (.int 0)) (aCons (mC (.int 0)) aNil)))) (aCons (mC .non) (aCons (mTup (aCons (mUn fNeg (mC (.int 1))) (aCons (mC (.int 0)) aNil))) (aCons (mTup (aCons (mC (.bl true)) (aCons (mC (.int 0)) aNil))) (aCons (mTup (aCons (mC (.int 0)) (aCons (mVar 1) aNil))) (aCons (mTup (aCons (mC (.int 0)) (aCons (mC (.bl true)) aNil))) (aCons (mTup (aCons (mC (.str "0")) (aCons (mC (.int 0)) aNil))) (aCons (mTup (aCons (mC (.int 0)) (aCons (mC .non) aNil))) aNil))))))))))))
    (sRet (mCall F__law_of 2 0 [0, 1] (aCons (mVar 0) (aCons (mVar 2) aNil)) aNil)))
noncomputable def F__law_bad_slip : List D → Sto → Out D := fnM 3 2 b__law_bad_slip
abbrev s__law_wide : Stmt := (top 35)
theorem sc__law_wide : FnScope ["deal", "most", "commands", "steps", "row", "more"] ["deal", "most"] (defScope s__law_wide) := ⟨rfl, rfl, rfl, by decide +kernel, rfl, by decide +kernel, by decide +kernel⟩
noncomputable def b__law_wide : SM := (sSeq (sAsg (gT 2 (gsCons (gN 2) (gsCons (gN 3) gsNil))) (mCall F__law_machine 2 0 [0, 1] (aCons (mVar 0) (aCons (mVar 1) aNil)) aNil))
    (sSeq (sIf (mTst (mBin fGt (mCall F__law_any 2 0 [0, 1] (aCons (mVar 0) (aCons (mC (.int 4)) aNil)) aNil) (mC (.int 0)))) (sRet (mTup (aCons (mVar 2) (aCons (mVar 3) aNil)))) sNil)
    (sRet (mTup (aCons (mC (.int 5)) (aCons (mComp false (iSeq (mVar 3)) (gN 4) [4] tYesM (mBin (fAdd false) (mFn (fList false) (aCons (mVar 4) aNil)) (mComp false (iRg1 (mBin fSub (mC (.int 5)) (mVar 2))) (gN 5) [5] tYesM (mCall F__law_any 2 0 [0, 1] (aCons (mVar 0) (aCons (mFn fLen (aCons (mVar 3) aNil)) aNil)) aNil)))) aNil))))))
noncomputable def F__law_wide : List D → Sto → Out D := fnM 6 2 b__law_wide
abbrev s__law_parts_at : Stmt := (top 36)
theorem sc__law_parts_at : FnScope ["machine", "heap", "time", "found", "form", "wrong"] ["machine", "heap", "time"] (defScope s__law_parts_at) := ⟨rfl, rfl, rfl, by decide +kernel, rfl, by decide +kernel, by decide +kernel⟩
noncomputable def b__law_parts_at : SM := (sSeq (sSet 3 (mLst true aNil))
    (sSeq (sFor (iRg1 (mC (.int 2))) (gN 4) (sTry subT (sDrop (mBM fAppend (mVar 3) (aCons (mTup (aCons (mC (.str "told")) (aCons (mIf (mTst (mBin (fEq false) (mVar 4) (mC (.int 0)))) (mCall F_since 3 0 [0, 1, 2] (aCons (mVar 0) (aCons (mVar 1) (aCons (mVar 2) aNil))) aNil) (mCall F_until 3 0 [0, 1, 2] (aCons (mVar 0) (aCons (mVar 1) (aCons (mVar 2) aNil))) aNil)) aNil))) aNil))) (("InvalidSlip", some 5, (sDrop (mBM fAppend (mVar 3) (aCons (mTup (aCons (mC (.str "slip")) (aCons (mVar 5) aNil))) aNil)))) :: [])))
    (sRet (mVar 3))))
noncomputable def F__law_parts_at : List D → Sto → Out D := fnM 6 3 b__law_parts_at
abbrev s_law : Stmt := (top 37)
theorem sc_law : FnScope ["script", "deal", "commands", "steps", "many", "machine", "heap", "given", "told", "state", "time", "slip", "due", "grown", "one", "kept", "bad", "place", "rows", "strange", "command", "at"] ["script"] (defScope s_law) := ⟨rfl, rfl, rfl, by decide +kernel, rfl, by decide +kernel, by decide +kernel⟩
noncomputable def b_law : SM := (sSeq (sSet 1 (mCall F__law_draw 2 0 [0, 1] (aCons (mVar 0) (aCons (mC (.int 3)) aNil)) aNil))
    (sSeq (sAsg (gT 2 (gsCons (gN 2) (gsCons (gN 3) gsNil))) (mCall F__law_wide 2 0 [0, 1] (aCons (mVar 1) (aCons (mC (.int 10)) aNil)) aNil))
    (sSeq (sSet 4 (mIf (mTst (mBin fGt (mCall F__law_any 2 0 [0, 1] (aCons (mVar 1) (aCons (mC (.int 8)) aNil)) aNil) (mC (.int 0)))) (mCall F__law_any 2 0 [0, 1] (aCons (mVar 1) (aCons (mC (.int 13)) aNil)) aNil) (mBin (fAdd false) (mC (.int 150)) (mCall F__law_any 2 0 [0, 1] (aCons (mVar 1) (aCons (mC (.int 50)) aNil)) aNil))))
    (sSeq (sPar [5, 6] (aCons (mMake "Machine" F_Machine___init__ 2 0 [0, 1, 2] (aCons (mVar 2) (aCons (mVar 3) aNil)) aNil) (aCons (mCall F__law_heap 3 0 [0, 1, 2] (aCons (mVar 1) (aCons (mVar 2) (aCons (mVar 4) aNil))) aNil) aNil)))
    (sSeq (sSet 7 (mCall F__law_mixed 2 0 [0, 1] (aCons (mVar 1) (aCons (mVar 6) aNil)) aNil))
    (sSeq (sSet 8 (mIf (mTst (mBin (fEq false) (mCall F__law_any 2 0 [0, 1] (aCons (mVar 1) (aCons (mC (.int 2)) aNil)) aNil) (mC (.int 0)))) (mVar 7) (mFn fTuple (aCons (mVar 7) aNil))))
    (sSeq (sIf (mTst (mBin (fEq true) (mFn fRepr (aCons (mCall F__law_asked 4 0 [0, 1, 2, 3] (aCons (mVar 5) (aCons (mC (.int 0)) (aCons (mVar 8) (aCons (mC .non) aNil)))) aNil) aNil)) (mFn fRepr (aCons (mTup (aCons (mC (.str "told")) (aCons (mVar 6) aNil))) aNil)))) (sRet (mC (.bl false))) sNil)
    (sSeq (sIf (mTst (mBin (fEq true) (mFn fRepr (aCons (mCall F__law_asked 4 0 [0, 1, 2, 3] (aCons (mVar 5) (aCons (mC (.int 2)) (aCons (mVar 8) (aCons (mC .non) aNil)))) aNil) aNil)) (mFn fRepr (aCons (mTup (aCons (mC (.str "told")) (aCons (mFn fTuple (aCons (mComp false (iSeq (mVar 6)) (gT 2 (gsCons (gN 10) (gsCons (gN 20) gsNil))) [10, 20] tYesM (mVar 20)) aNil)) aNil))) aNil)))) (sRet (mC (.bl false))) sNil)
    (sSeq (sAsg (gT 2 (gsCons (gN 9) (gsCons (gN 10) gsNil))) (mTup (aCons (mCall F__law_any 2 0 [0, 1] (aCons (mVar 1) (aCons (mFn fLen (aCons (mVar 3) aNil)) aNil)) aNil) (aCons (mCall F__law_any 2 0 [0, 1] (aCons (mVar 1) (aCons (mIf (mTst (mBin fLt (mVar 4) (mC (.int 13)))) (mC (.int 40)) (mC (.int 500))) aNil)) aNil) aNil))))
    (sSeq (sIf (mTst (mBin (fEq true) (mFn fRepr (aCons (mCall F__law_asked 4 0 [0, 1, 2, 3] (aCons (mVar 5) (aCons (mC (.int 3)) (aCons (mVar 8) (aCons (mVar 9) aNil)))) aNil) aNil)) (mFn fRepr (aCons (mTup (aCons (mC (.str "told")) (aCons (mCall F__law_led 3 0 [0, 1, 2] (aCons (mVar 3) (aCons (mVar 9) (aCons (mComp false (iSeq (mVar 6)) (gT 2 (gsCons (gN 21) (gsCons (gN 20) gsNil))) [21, 20] tYesM (mVar 20)) aNil))) aNil) aNil))) aNil)))) (sRet (mC (.bl false))) sNil)
    (sSeq (sIf (mTst (mBin (fEq true) (mFn fRepr (aCons (mCall F_since 0 3 [2, 1, 0] aNil (aCons (mVar 10) (aCons (mVar 8) (aCons (mVar 5) aNil)))) aNil)) (mFn fRepr (aCons (mFn fTuple (aCons (mComp false (iSeq (mVar 6)) (gN 11) [11] (mTst (mBin fGt (mBin fIxA (mVar 11) (mC (.int 0))) (mVar 10))) (mVar 11)) aNil)) aNil)))) (sRet (mC (.bl false))) sNil)
    (sSeq (sIf (mTst (mBin (fEq true) (mFn fRepr (aCons (mCall F_until 0 3 [2, 1, 0] aNil (aCons (mVar 10) (aCons (mVar 8) (aCons (mVar 5) aNil)))) aNil)) (mFn fRepr (aCons (mFn fTuple (aCons (mComp false (iSeq (mVar 6)) (gN 11) [11] (mTst (mBin fLt (mBin fIxA (mVar 11) (mC (.int 0))) (mVar 10))) (mVar 11)) aNil)) aNil)))) (sRet (mC (.bl false))) sNil)
    (sSeq (sSet 11 (mTup (aCons (mVar 10) (aCons (mCall F__law_any 2 0 [0, 1] (aCons (mVar 1) (aCons (mVar 2) aNil)) aNil) aNil))))
    (sSeq (sSet 12 (mIf (mTst (mBin (fInA false) (mVar 10) (mComp false (iSeq (mVar 6)) (gT 2 (gsCons (gN 21) (gsCons (gN 20) gsNil))) [21, 20] tYesM (mVar 21)))) (mTup (aCons (mC (.str "refused")) (aCons (mC (.int 0)) aNil))) (mTup (aCons (mC (.str "told")) (aCons (mFn fTuple (aCons (mFn (fSorted false) (aCons (mBin (fAdd false) (mVar 6) (mTup (aCons (mVar 11) aNil))) aNil)) aNil)) aNil)))))
    (sSeq (sIf (mTst (mBin (fEq true) (mFn fRepr (aCons (mLst false (aCons (mCall F__law_asked 4 0 [0, 1, 2, 3] (aCons (mVar 5) (aCons (mC (.int 1)) (aCons (mVar 8) (aCons (mVar 11) aNil)))) aNil) (aCons (mCall F__law_asked 4 0 [0, 1, 2, 3] (aCons (mVar 5) (aCons (mC (.int 4)) (aCons (mC .non) (aCons (mVar 11) aNil)))) aNil) aNil))) aNil)) (mFn fRepr (aCons (mLst false (aCons (mVar 12) (aCons (mTup (aCons (mC (.str "told")) (aCons (mVar 11) aNil))) aNil))) aNil)))) (sRet (mC (.bl false))) sNil)
    (sSeq (sSet 13 (mTup aNil))
    (sSeq (sFor (iSeq (mCall F__law_mixed 2 0 [0, 1] (aCons (mVar 1) (aCons (mSl false (mVar 6) oNone (oSome (mC (.int 12)))) aNil)) aNil)) (gN 14) (sSet 13 (mCall F_put_in 3 0 [0, 1, 2] (aCons (mVar 5) (aCons (mVar 13) (aCons (mVar 14) aNil))) aNil)))
    (sSeq (sIf (mTst (mBin (fEq true) (mFn fRepr (aCons (mVar 13) aNil)) (mFn fRepr (aCons (mSl false (mVar 6) oNone (oSome (mC (.int 12)))) aNil)))) (sRet (mC (.bl false))) sNil)
    (sSeq (sSet 15 (mCall F_checked_heap 2 0 [0, 1] (aCons (mVar 5) (aCons (mVar 7) aNil)) aNil))
    (sSeq (sDrop (mBM fAppend (mVar 7) (aCons (mC .non) aNil)))
    (sSeq (sIf (mTst (mBin (fEq true) (mFn fRepr (aCons (mVar 15) aNil)) (mFn fRepr (aCons (mVar 6) aNil)))) (sRet (mC (.bl false))) sNil)
    (sSeq (sPar [16, 17] (aCons (mCall F__law_bad_slip 2 0 [0, 1] (aCons (mVar 1) (aCons (mVar 2) aNil)) aNil) (aCons (mCall F__law_any 2 0 [0, 1] (aCons (mVar 1) (aCons (mBin (fAdd false) (mFn fLen (aCons (mVar 6) aNil)) (mC (.int 1))) aNil)) aNil) aNil)))
    (sSeq (sSet 18 (mBin (fAdd false) (mBin (fAdd false) (mFn (fList false) (aCons (mSl false (mVar 6) oNone (oSome (mVar 17))) aNil)) (mLst false (aCons (mVar 16) aNil))) (mFn (fList false) (aCons (mSl false (mVar 6) (oSome (mVar 17)) oNone) aNil))))
    (sSeq (sIf (mTst (mBin (fEq true) (mFn fRepr (aCons (mBin (fAdd false) (mCall F__law_parts_at 3 0 [0, 1, 2] (aCons (mVar 5) (aCons (mVar 18) (aCons (mVar 10) aNil))) aNil) (mCall F__law_parts_at 3 0 [0, 1, 2] (aCons (mVar 5) (aCons (mC .non) (aCons (mVar 10) aNil))) aNil)) aNil)) (mFn fRepr (aCons (mBin (fAdd false) (mBin (fMul false) (mLst false (aCons (mTup (aCons (mC (.str "slip")) (aCons (mVar 17) aNil))) aNil)) (mC (.int 2))) (mBin (fMul false) (mLst false (aCons (mTup (aCons (mC (.str "slip")) (aCons (mC (.int 0)) aNil))) aNil)) (mC (.int 2)))) aNil)))) (sRet (mC (.bl false))) sNil)
    (sSeq (sIf (mTst (mBin (fEq true) (mFn fRepr (aCons (mLst false (aCons (mCall F__law_asked 4 0 [0, 1, 2, 3] (aCons (mVar 5) (aCons (mC (.int 0)) (aCons (mVar 18) (aCons (mC .non) aNil)))) aNil) (aCons (mCall F__law_asked 4 0 [0, 1, 2, 3] (aCons (mVar 5) (aCons (mC (.int 4)) (aCons (mC .non) (aCons (mVar 16) aNil)))) aNil) aNil))) aNil)) (mFn fRepr (aCons (mLst false (aCons (mTup (aCons (mC (.str "slip")) (aCons (mVar 17) aNil))) (aCons (mTup (aCons (mC (.str "slip")) (aCons (mC (.int 0)) aNil))) aNil))) aNil)))) (sRet (mC (.bl false))) sNil)
    (sSeq (sIf (mTst (mBin (fEq true) (mFn fRepr (aCons (mLst false (aCons (mCall F__law_asked 4 0 [0, 1, 2, 3] (aCons (mVar 5) (aCons (mC (.int 1)) (aCons (mVar 18) (aCons (mVar 16) aNil)))) aNil) (aCons (mCall F__law_asked 4 0 [0, 1, 2, 3] (aCons (mVar 5) (aCons (mC (.int 1)) (aCons (mVar 6) (aCons (mVar 16) aNil)))) aNil) aNil))) aNil)) (mFn fRepr (aCons (mLst false (aCons (mTup (aCons (mC (.str "slip")) (aCons (mVar 17) aNil))) (aCons (mTup (aCons (mC (.str "slip")) (aCons (mC (.int 0)) aNil))) aNil))) aNil)))) (sRet (mC (.bl false))) sNil)
    (sSeq (sSet 19 (mCall F__law_of 2 0 [0, 1] (aCons (mVar 1) (aCons (mLst false (aCons (mFn fLen (aCons (mVar 3) aNil)) (aCons (mUn fNeg (mC (.int 1))) (aCons (mC .non) (aCons (mC (.bl true)) (aCons (mC (.str "0")) aNil)))))) aNil)) aNil))
    (sSeq (sIf (mTst (mBin (fEq true) (mFn fRepr (aCons (mLst false (aCons (mCall F__law_asked 4 0 [0, 1, 2, 3] (aCons (mVar 5) (aCons (mC (.int 3)) (aCons (mVar 18) (aCons (mVar 19) aNil)))) aNil) (aCons (mCall F__law_asked 4 0 [0, 1, 2, 3] (aCons (mVar 5) (aCons (mC (.int 3)) (aCons (mVar 18) (aCons (mVar 9) aNil)))) aNil) aNil))) aNil)) (mFn fRepr (aCons (mLst false (aCons (mTup (aCons (mC (.str "refused")) (aCons (mC (.int 0)) aNil))) (aCons (mTup (aCons (mC (.str "slip")) (aCons (mVar 17) aNil))) aNil))) aNil)))) (sRet (mC (.bl false))) sNil)
    (sSeq (sIf (mAndT (mTst (mBin (fEq true) (mVar 6) (mTup aNil))) (mTst (mBin (fEq true) (mFn fRepr (aCons (mCall F__law_asked 4 0 [0, 1, 2, 3] (aCons (mVar 5) (aCons (mC (.int 2)) (aCons (mBin (fAdd false) (mVar 6) (mTup (aCons (mBin fIxA (mVar 6) (mC (.int 0))) aNil))) (aCons (mC .non) aNil)))) aNil) aNil)) (mFn fRepr (aCons (mTup (aCons (mC (.str "slip")) (aCons (mFn fLen (aCons (mVar 6) aNil)) aNil))) aNil))))) (sRet (mC (.bl false))) sNil)
    (sRet (mBin (fEq false) (mFn fRepr (aCons (mCall F__law_asked 4 0 [0, 1, 2, 3] (aCons (mVar 5) (aCons (mC (.int 0)) (aCons (mCall F__law_of 2 0 [0, 1] (aCons (mVar 1) (aCons (mLst false (aCons (mC .non) (aCons (mC (.int 7)) (aCons (mC (.str "00")) (aCons mDk aNil))))) aNil)) aNil) (aCons (mC .non) aNil)))) aNil) aNil)) (mFn fRepr (aCons (mTup (aCons (mC (.str "slip")) (aCons (mC (.int 0)) aNil))) aNil)))))))))))))))))))))))))))))))))
noncomputable def F_law : List D → Sto → Out D := fnM 22 1 b_law
end K03

namespace K03
open PySem L2 Mi
structure Txt (P : Program) (K : PySem.W.Frag) (mg : Str → Option Value) : Prop where
  z_abs : mg "abs" = none
  z_all : mg "all" = none
  z_bool : mg "bool" = none
  z_enumerate : mg "enumerate" = none
  z_int : mg "int" = none
  z_isinstance : mg "isinstance" = none
  z_len : mg "len" = none
  z_list : mg "list" = none
  z_max : mg "max" = none
  z_min : mg "min" = none
  z_range : mg "range" = none
  z_repr : mg "repr" = none
  z_sorted : mg "sorted" = none
  z_tuple : mg "tuple" = none
  z_super : mg "super" = none
  r_InvalidMachine : ExcOk P K mg "InvalidMachine"
  r_InvalidSlip : ExcOk P K mg "InvalidSlip"
  r_Refused : ExcOk P K mg "Refused"
  fld : fldB K mg fldT = true
  exT : exTab K mg excT = true
section
variable {P : Program} {w : World} {K : PySem.W.Frag} {mg : Str → Option Value} {base : Heap}
theorem ok_is_integer {f : Addr} {fd : FuncData} (Fu : Fun K "is_integer" "is_integer" s_is_integer f fd) (T : Txt P K mg) : FnG P w K mg base 1 f fd ["value"] F_is_integer := by
  refine fn_g Fu sc_is_integer (by decide) fun cd A outer s H E hr hgd hp tk => ?_
  have nd := sc_is_integer.nd
  have hu := hu65 hr
  exact (ms_one (ms_ret (me_and (me_isi "int" (by decide) (me_var 0) rfl T.z_isinstance rfl T.z_int PyProof.Rows.boot_int) (me_one (me_not (me_isi "bool" (by decide) (me_var 0) rfl T.z_isinstance rfl T.z_bool PyProof.Rows.boot_bool))))))
theorem ok_is_number {f : Addr} {fd : FuncData} (Fu : Fun K "is_number" "is_number" s_is_number f fd) (T : Txt P K mg) (c_is_integer_1 : Cal P w K mg base 1 "is_integer" 1 [] [0] F_is_integer) : FnG P w K mg base 3 f fd ["value"] F_is_number := by
  refine fn_g Fu sc_is_number (by decide) fun cd A outer s H E hr hgd hp tk => ?_
  have nd := sc_is_number.nd
  have hu := hu65 hr
  exact (ms_one (ms_ret (me_and (me_call tk (hr.mono (by decide)) hgd c_is_integer_1 rfl rfl (ma_cons (me_var 0) ma_nil)) (me_one (me_cmp bo_ge (me_var 0) me_int)))))
theorem ok_is_index {f : Addr} {fd : FuncData} (Fu : Fun K "is_index" "is_index" s_is_index f fd) (T : Txt P K mg) (c_is_number_1 : Cal P w K mg base 3 "is_number" 1 [] [0] F_is_number) : FnG P w K mg base 5 f fd ["value", "many"] F_is_index := by
  refine fn_g Fu sc_is_index (by decide) fun cd A outer s H E hr hgd hp tk => ?_
  have nd := sc_is_index.nd
  have hu := hu65 hr
  exact (ms_one (ms_ret (me_and (me_call tk (hr.mono (by decide)) hgd c_is_number_1 rfl rfl (ma_cons (me_var 0) ma_nil)) (me_one (me_cmp bo_lt (me_var 0) (me_var 1))))))
theorem ok_is_sequence {f : Addr} {fd : FuncData} (Fu : Fun K "is_sequence" "is_sequence" s_is_sequence f fd) (T : Txt P K mg) : FnG P w K mg base 1 f fd ["value"] F_is_sequence := by
  refine fn_g Fu sc_is_sequence (by decide) fun cd A outer s H E hr hgd hp tk => ?_
  have nd := sc_is_sequence.nd
  have hu := hu65 hr
  exact (ms_one (ms_ret (me_isi2 "list" "tuple" (by decide) (me_var 0) rfl T.z_isinstance rfl T.z_list PyProof.Rows.boot_list rfl T.z_tuple PyProof.Rows.boot_tuple)))
theorem ok_Machine___init__ {f : Addr} {fd : FuncData} (Fu : Fun K "__init__" "Machine.__init__" s_Machine___init__ f fd) (T : Txt P K mg) (c_is_number_1 : Cal P w K mg base 3 "is_number" 1 [] [0] F_is_number) (c_is_sequence_1 : Cal P w K mg base 1 "is_sequence" 1 [] [0] F_is_sequence) (c_is_index_2 : Cal P w K mg base 5 "is_index" 2 [] [0, 1] F_is_index) : FnG P w K mg base 7 f fd ["self", "commands", "steps"] F_Machine___init__ := by
  refine fn_g Fu sc_Machine___init__ (by decide) fun cd A outer s H E hr hgd hp tk => ?_
  have nd := sc_Machine___init__.nd
  have hu := hu65 hr
  exact (ms_cons (ms_if (mt_of (mw_or (mt_not (mt_val (me_call tk (hr.mono (by decide)) hgd c_is_number_1 rfl rfl (ma_cons (me_var 1) ma_nil)))) (mw_or1 (mt_cmp (bo_eq hu) (me_var 1) me_int)))) (ms_one (ms_raiseO rfl tk T.r_InvalidMachine (hr.mono (by decide)) T.z_super me_int)) ms_nil)
    (ms_cons (ms_if (mt_of (mw_or (mt_not (mt_val (me_call tk (hr.mono (by decide)) hgd c_is_sequence_1 rfl rfl (ma_cons (me_var 2) ma_nil)))) (mw_or1 (mt_cmp (bo_eq hu) (me_blt bl_len rfl T.z_len bt_len (ma_cons (me_var 2) ma_nil)) me_int)))) (ms_one (ms_raiseO rfl tk T.r_InvalidMachine (hr.mono (by decide)) T.z_super me_int)) ms_nil)
    (ms_cons (ms_for hp rfl (mi_enum (me_var 2) rfl T.z_enumerate) (mg_tup rfl (mgs_cons (mg_name 3 nd) (mgs_cons (mg_name 4 nd) mgs_nil))) (ms_one (ms_if (mt_of (mw_or (mt_not (mt_val (me_call tk (hr.mono (by decide)) hgd c_is_sequence_1 rfl rfl (ma_cons (me_var 4) ma_nil)))) (mw_or (mt_cmp (bo_ne hu) (me_blt bl_len rfl T.z_len bt_len (ma_cons (me_var 4) ma_nil)) (me_var 1)) (mw_or1 (mt_not (mt_val (me_blt (bl_all rfl) rfl T.z_all bt_all (ma_cons (me_comp (own := [("to", 5)]) false [5] rfl nd (mi_seq (me_var 4)) (mgo_name 5 nd) mts_nil (fun _ _ _ _ _ => (me_call takesN (hr.mono (by decide)) hgd c_is_index_2 rfl rfl (ma_cons (me_var 5) (ma_cons (me_blt bl_len rfl T.z_len bt_len (ma_cons (me_var 2) ma_nil)) ma_nil))))) ma_nil)))))))) (ms_one (ms_raiseO rfl tk T.r_InvalidMachine (hr.mono (by decide)) T.z_super (me_bin (bo_add false) me_int (me_var 3)))) ms_nil)))
    (ms_cons (ms_fld (Flds.of T.fld) (me_var 0) (me_var 1))
    (ms_cons (ms_fld (Flds.of T.fld) (me_var 0) (me_blt bl_len rfl T.z_len bt_len (ma_cons (me_var 2) ma_nil)))
    (ms_cons (ms_fld (Flds.of T.fld) (me_var 0) (me_bty bl_tuple rfl T.z_tuple bt_tuple (ma_cons (me_comp (own := [("row", 4)]) false [4] rfl nd (mi_seq (me_var 2)) (mgo_name 4 nd) mts_nil (fun _ _ _ _ _ => (me_bty bl_tuple rfl T.z_tuple bt_tuple (ma_cons (me_var 4) ma_nil)))) ma_nil)))
    (ms_one (ms_fld (Flds.of T.fld) (me_var 0) me_dk))))))))
theorem ok_led {f : Addr} {fd : FuncData} (Fu : Fun K "led" "led" s_led f fd) (T : Txt P K mg) : FnG P w K mg base 1 f fd ["machine", "state", "row"] F_led := by
  refine fn_g Fu sc_led (by decide) fun cd A outer s H E hr hgd hp tk => ?_
  have nd := sc_led.nd
  have hu := hu65 hr
  exact (ms_cons (ms_for hp rfl (mi_seq (me_var 2)) (mg_name 3 nd) (ms_one (ms_set 1 nd (me_ixA hu (me_ixA hu (me_fld (Flds.of T.fld) (me_var 0)) (me_var 1)) (me_var 3)))))
    (ms_one (ms_ret (me_var 1))))
theorem ok_is_slip {f : Addr} {fd : FuncData} (Fu : Fun K "is_slip" "is_slip" s_is_slip f fd) (T : Txt P K mg) (c_is_number_1 : Cal P w K mg base 3 "is_number" 1 [] [0] F_is_number) (c_is_index_2 : Cal P w K mg base 5 "is_index" 2 [] [0, 1] F_is_index) : FnG P w K mg base 7 f fd ["machine", "value"] F_is_slip := by
  refine fn_g Fu sc_is_slip (by decide) fun cd A outer s H E hr hgd hp tk => ?_
  have nd := sc_is_slip.nd
  have hu := hu65 hr
  exact (ms_cons (ms_if (mt_of (mw_or (mt_not (mt_val (me_isi "tuple" (by decide) (me_var 1) rfl T.z_isinstance rfl T.z_tuple PyProof.Rows.boot_tuple))) (mw_or1 (mt_cmp (bo_ne hu) (me_blt bl_len rfl T.z_len bt_len (ma_cons (me_var 1) ma_nil)) me_int)))) (ms_one (ms_ret me_bl)) ms_nil)
    (ms_one (ms_ret (me_and (me_call tk (hr.mono (by decide)) hgd c_is_number_1 rfl rfl (ma_cons (me_ixA hu (me_var 1) me_int) ma_nil)) (me_one (me_call tk (hr.mono (by decide)) hgd c_is_index_2 rfl rfl (ma_cons (me_ixA hu (me_var 1) me_int) (ma_cons (me_fld (Flds.of T.fld) (me_var 0)) ma_nil))))))))
theorem ok_checked_slip {f : Addr} {fd : FuncData} (Fu : Fun K "checked_slip" "checked_slip" s_checked_slip f fd) (T : Txt P K mg) (c_is_slip_2 : Cal P w K mg base 7 "is_slip" 2 [] [0, 1] F_is_slip) : FnG P w K mg base 9 f fd ["machine", "value"] F_checked_slip := by
  refine fn_g Fu sc_checked_slip (by decide) fun cd A outer s H E hr hgd hp tk => ?_
  have nd := sc_checked_slip.nd
  have hu := hu65 hr
  exact (ms_cons (ms_if (mt_not (mt_val (me_call tk (hr.mono (by decide)) hgd c_is_slip_2 rfl rfl (ma_cons (me_var 0) (ma_cons (me_var 1) ma_nil))))) (ms_one (ms_raiseO rfl tk T.r_InvalidSlip (hr.mono (by decide)) T.z_super me_int)) ms_nil)
    (ms_one (ms_ret (me_var 1))))
theorem ok_checked_heap {f : Addr} {fd : FuncData} (Fu : Fun K "checked_heap" "checked_heap" s_checked_heap f fd) (T : Txt P K mg) (c_is_sequence_1 : Cal P w K mg base 1 "is_sequence" 1 [] [0] F_is_sequence) (c_is_slip_2 : Cal P w K mg base 7 "is_slip" 2 [] [0, 1] F_is_slip) : FnG P w K mg base 9 f fd ["machine", "value"] F_checked_heap := by
  refine fn_g Fu sc_checked_heap (by decide) fun cd A outer s H E hr hgd hp tk => ?_
  have nd := sc_checked_heap.nd
  have hu := hu65 hr
  exact (ms_cons (ms_if (mt_not (mt_val (me_call tk (hr.mono (by decide)) hgd c_is_sequence_1 rfl rfl (ma_cons (me_var 1) ma_nil)))) (ms_one (ms_raiseO rfl tk T.r_InvalidSlip (hr.mono (by decide)) T.z_super me_int)) ms_nil)
    (ms_cons (ms_set 2 nd me_dk)
    (ms_cons (ms_for hp rfl (mi_enum (me_var 1) rfl T.z_enumerate) (mg_tup rfl (mgs_cons (mg_name 3 nd) (mgs_cons (mg_name 4 nd) mgs_nil))) (ms_cons (ms_if (mt_of (mw_or (mt_not (mt_val (me_call tk (hr.mono (by decide)) hgd c_is_slip_2 rfl rfl (ma_cons (me_var 0) (ma_cons (me_var 4) ma_nil))))) (mw_or1 (mt_cmp (bo_inA hu) (me_ixA hu (me_var 4) me_int) (me_var 2))))) (ms_one (ms_raiseO rfl tk T.r_InvalidSlip (hr.mono (by decide)) T.z_super (me_var 3))) ms_nil)
    (ms_one (ms_asgH me_bl (mh_subA hu (me_var 2) (me_ixA hu (me_var 4) me_int))))))
    (ms_one (ms_ret (me_bty bl_tuple rfl T.z_tuple bt_tuple (ma_cons (me_blt (bl_sorted false) rfl T.z_sorted bt_sorted (ma_cons (me_var 1) ma_nil)) ma_nil)))))))
theorem ok_row_of {f : Addr} {fd : FuncData} (Fu : Fun K "row_of" "row_of" s_row_of f fd) (T : Txt P K mg) (c_checked_heap_2 : Cal P w K mg base 9 "checked_heap" 2 [] [0, 1] F_checked_heap) : FnG P w K mg base 11 f fd ["machine", "heap"] F_row_of := by
  refine fn_g Fu sc_row_of (by decide) fun cd A outer s H E hr hgd hp tk => ?_
  have nd := sc_row_of.nd
  have hu := hu65 hr
  exact (ms_one (ms_ret (me_bty bl_tuple rfl T.z_tuple bt_tuple (ma_cons (me_comp (own := [("time", 2), ("command", 3)]) false [2, 3] rfl nd (mi_seq (me_call tk (hr.mono (by decide)) hgd c_checked_heap_2 rfl rfl (ma_cons (me_var 0) (ma_cons (me_var 1) ma_nil)))) (mgo_tup rfl (mgos_cons (mgo_name 2 nd) (mgos_cons (mgo_name 3 nd) mgos_nil))) mts_nil (fun _ _ _ _ _ => (me_var 3))) ma_nil))))
theorem ok_put_in {f : Addr} {fd : FuncData} (Fu : Fun K "put_in" "put_in" s_put_in f fd) (T : Txt P K mg) (c_checked_slip_2 : Cal P w K mg base 9 "checked_slip" 2 [] [0, 1] F_checked_slip) (c_checked_heap_2 : Cal P w K mg base 9 "checked_heap" 2 [] [0, 1] F_checked_heap) : FnG P w K mg base 11 f fd ["machine", "heap", "slip"] F_put_in := by
  refine fn_g Fu sc_put_in (by decide) fun cd A outer s H E hr hgd hp tk => ?_
  have nd := sc_put_in.nd
  have hu := hu65 hr
  exact (ms_cons (ms_par 3 4 rfl nd (ma_cons (me_call tk (hr.mono (by decide)) hgd c_checked_heap_2 rfl rfl (ma_cons (me_var 0) (ma_cons (me_var 1) ma_nil))) (ma_cons (me_call tk (hr.mono (by decide)) hgd c_checked_slip_2 rfl rfl (ma_cons (me_var 0) (ma_cons (me_var 2) ma_nil))) ma_nil)))
    (ms_cons (ms_if (mt_cmp (bo_inA hu) (me_ixA hu (me_var 4) me_int) (me_comp (own := [("time", 5), ("command", 6)]) false [5, 6] rfl nd (mi_seq (me_var 3)) (mgo_tup rfl (mgos_cons (mgo_name 5 nd) (mgos_cons (mgo_name 6 nd) mgos_nil))) mts_nil (fun _ _ _ _ _ => (me_var 5)))) (ms_one (ms_raiseO rfl tk T.r_Refused (hr.mono (by decide)) T.z_super me_int)) ms_nil)
    (ms_one (ms_ret (me_bty bl_tuple rfl T.z_tuple bt_tuple (ma_cons (me_blt (bl_sorted false) rfl T.z_sorted bt_sorted (ma_cons (me_lst false (ma_star (me_var 3) (ma_cons (me_var 4) ma_nil))) ma_nil)) ma_nil))))))
theorem ok_since {f : Addr} {fd : FuncData} (Fu : Fun K "since" "since" s_since f fd) (T : Txt P K mg) (c_checked_heap_2 : Cal P w K mg base 9 "checked_heap" 2 [] [0, 1] F_checked_heap) : FnG P w K mg base 11 f fd ["machine", "heap", "time"] F_since := by
  refine fn_g Fu sc_since (by decide) fun cd A outer s H E hr hgd hp tk => ?_
  have nd := sc_since.nd
  have hu := hu65 hr
  exact (ms_one (ms_ret (me_bty bl_tuple rfl T.z_tuple bt_tuple (ma_cons (me_comp (own := [("slip", 3)]) false [3] rfl nd (mi_seq (me_call tk (hr.mono (by decide)) hgd c_checked_heap_2 rfl rfl (ma_cons (me_var 0) (ma_cons (me_var 1) ma_nil)))) (mgo_name 3 nd) (mts_one fun _ _ _ _ _ => (mt_cmp bo_gt (me_ixA hu (me_var 3) me_int) (me_var 2))) (fun _ _ _ _ _ => (me_var 3))) ma_nil))))
theorem ok_until {f : Addr} {fd : FuncData} (Fu : Fun K "until" "until" s_until f fd) (T : Txt P K mg) (c_checked_heap_2 : Cal P w K mg base 9 "checked_heap" 2 [] [0, 1] F_checked_heap) : FnG P w K mg base 11 f fd ["machine", "heap", "time"] F_until := by
  refine fn_g Fu sc_until (by decide) fun cd A outer s H E hr hgd hp tk => ?_
  have nd := sc_until.nd
  have hu := hu65 hr
  exact (ms_one (ms_ret (me_bty bl_tuple rfl T.z_tuple bt_tuple (ma_cons (me_comp (own := [("slip", 3)]) false [3] rfl nd (mi_seq (me_call tk (hr.mono (by decide)) hgd c_checked_heap_2 rfl rfl (ma_cons (me_var 0) (ma_cons (me_var 1) ma_nil)))) (mgo_name 3 nd) (mts_one fun _ _ _ _ _ => (mt_cmp bo_lt (me_ixA hu (me_var 3) me_int) (me_var 2))) (fun _ _ _ _ _ => (me_var 3))) ma_nil))))
theorem ok_truth {f : Addr} {fd : FuncData} (Fu : Fun K "truth" "truth" s_truth f fd) (T : Txt P K mg) (c_is_index_2 : Cal P w K mg base 5 "is_index" 2 [] [0, 1] F_is_index) (c_led_3 : Cal P w K mg base 1 "led" 3 [] [0, 1, 2] F_led) (c_row_of_2 : Cal P w K mg base 11 "row_of" 2 [] [0, 1] F_row_of) : FnG P w K mg base 13 f fd ["machine", "state", "heap"] F_truth := by
  refine fn_g Fu sc_truth (by decide) fun cd A outer s H E hr hgd hp tk => ?_
  have nd := sc_truth.nd
  have hu := hu65 hr
  exact (ms_cons (ms_if (mt_not (mt_val (me_call tk (hr.mono (by decide)) hgd c_is_index_2 rfl rfl (ma_cons (me_var 1) (ma_cons (me_fld (Flds.of T.fld) (me_var 0)) ma_nil))))) (ms_one (ms_raiseO rfl tk T.r_Refused (hr.mono (by decide)) T.z_super me_int)) ms_nil)
    (ms_one (ms_ret (me_call tk (hr.mono (by decide)) hgd c_led_3 rfl rfl (ma_cons (me_var 0) (ma_cons (me_var 1) (ma_cons (me_call tk (hr.mono (by decide)) hgd c_row_of_2 rfl rfl (ma_cons (me_var 0) (ma_cons (me_var 2) ma_nil))) ma_nil)))))))
theorem ok__law_draw {f : Addr} {fd : FuncData} (Fu : Fun K "_law_draw" "_law_draw" s__law_draw f fd) (T : Txt P K mg) : FnG P w K mg base 1 f fd ["script", "salt"] F__law_draw := by
  refine fn_g Fu sc__law_draw (by decide) fun cd A outer s H E hr hgd hp tk => ?_
  have nd := sc__law_draw.nd
  have hu := hu65 hr
  exact (ms_cons (ms_setComp (own := [("cell", 4)]) false 2 [4] rfl nd (mi_seq (me_sl false (me_var 0) mo_none (mo_some me_int))) (mgo_name 4 nd) mts_nil (fun _ _ _ _ _ => (me_blt bl_abs rfl T.z_abs bt_abs (ma_cons (me_bty bl_int rfl T.z_int bt_int (ma_cons (me_var 4) ma_nil)) ma_nil))))
    (ms_cons (ms_set 3 nd (me_bin (bo_add false) me_int (me_bin (bo_mul false) me_int (me_var 1))))
    (ms_cons (ms_for hp rfl (mi_seq (me_var 2)) (mg_name 4 nd) (ms_one (ms_set 3 nd (me_bin bo_mod (me_bty bl_int rfl T.z_int bt_int (ma_cons (me_bin (bo_add false) (me_bin (bo_add false) (me_bin (bo_mul false) (me_var 3) me_int) (me_bin bo_mod (me_var 4) me_int)) me_int) ma_nil)) me_int))))
    (ms_one (ms_ret (me_lst true (ma_cons (me_rev true (me_comp (own := [("cell", 4)]) false [4] rfl nd (mi_seq (me_var 2)) (mgo_name 4 nd) (mts_one fun _ _ _ _ _ => (mt_cmp bo_ge (me_var 4) (me_bin bo_pow me_int me_int))) (fun _ _ _ _ _ => (me_var 4)))) (ma_cons (me_var 3) ma_nil))))))))
theorem ok__law_any {f : Addr} {fd : FuncData} (Fu : Fun K "_law_any" "_law_any" s__law_any f fd) (T : Txt P K mg) : FnG P w K mg base 1 f fd ["deal", "bound"] F__law_any := by
  refine fn_g Fu sc__law_any (by decide) fun cd A outer s H E hr hgd hp tk => ?_
  have nd := sc__law_any.nd
  have hu := hu65 hr
  exact (ms_cons (ms_while hp (mt_of (mw_and (mt_cmp (bo_ne hu) (me_ixA hu (me_var 0) me_int) (me_lst false ma_nil)) (mw_and1 (mt_cmp (bo_eq hu) (me_ixA hu (me_ixA hu (me_var 0) me_int) (me_neg me_int)) me_int)))) (ms_one (ms_drop (me_lm0 PySem.F.slot_list_pop PySem.F.type_list_pop mt_oPop (me_ixA hu (me_var 0) me_int)))))
    (ms_cons (ms_if (mt_cmp (bo_ne hu) (me_ixA hu (me_var 0) me_int) (me_lst false ma_nil)) (ms_cons (ms_set 2 nd (me_bty bl_int rfl T.z_int bt_int (ma_cons (me_lm0 PySem.F.slot_list_pop PySem.F.type_list_pop mt_oPop (me_ixA hu (me_var 0) me_int)) ma_nil)))
    (ms_cons (ms_drop (me_lm PySem.F.slot_list_append PySem.F.type_list_append mt_oAppend (me_ixA hu (me_var 0) me_int) (ma_cons (me_bin bo_fdiv (me_var 2) (me_var 1)) ma_nil)))
    (ms_one (ms_ret (me_bin bo_mod (me_var 2) (me_var 1)))))) ms_nil)
    (ms_cons (ms_asgH (me_bin bo_mod (me_bty bl_int rfl T.z_int bt_int (ma_cons (me_bin (bo_add false) (me_bin (bo_mul false) (me_ixA hu (me_var 0) me_int) me_int) me_int) ma_nil)) me_int) (mh_subA hu (me_var 0) me_int))
    (ms_one (ms_ret (me_bin bo_mod (me_bty bl_int rfl T.z_int bt_int (ma_cons (me_bin bo_fdiv (me_ixA hu (me_var 0) me_int) me_int) ma_nil)) (me_var 1)))))))
theorem ok__law_of {f : Addr} {fd : FuncData} (Fu : Fun K "_law_of" "_law_of" s__law_of f fd) (T : Txt P K mg) (c__law_any_2 : Cal P w K mg base 1 "_law_any" 2 [] [0, 1] F__law_any) : FnG P w K mg base 3 f fd ["deal", "some"] F__law_of := by
  refine fn_g Fu sc__law_of (by decide) fun cd A outer s H E hr hgd hp tk => ?_
  have nd := sc__law_of.nd
  have hu := hu65 hr
  exact (ms_one (ms_ret (me_ixA hu (me_var 1) (me_call tk (hr.mono (by decide)) hgd c__law_any_2 rfl rfl (ma_cons (me_var 0) (ma_cons (me_blt bl_len rfl T.z_len bt_len (ma_cons (me_var 1) ma_nil)) ma_nil))))))
theorem ok__law_mixed {f : Addr} {fd : FuncData} (Fu : Fun K "_law_mixed" "_law_mixed" s__law_mixed f fd) (T : Txt P K mg) (c__law_any_2 : Cal P w K mg base 1 "_law_any" 2 [] [0, 1] F__law_any) : FnG P w K mg base 3 f fd ["deal", "some"] F__law_mixed := by
  refine fn_g Fu sc__law_mixed (by decide) fun cd A outer s H E hr hgd hp tk => ?_
  have nd := sc__law_mixed.nd
  have hu := hu65 hr
  exact (ms_cons (ms_par 2 3 rfl nd (ma_cons (me_bty (bl_list true) rfl T.z_list bt_list (ma_cons (me_var 1) ma_nil)) (ma_cons (me_lst true ma_nil) ma_nil)))
    (ms_cons (ms_while hp (mt_cmp (bo_ne hu) (me_var 2) (me_lst false ma_nil)) (ms_one (ms_drop (me_lm PySem.F.slot_list_append PySem.F.type_list_append mt_oAppend (me_var 3) (ma_cons (me_lm PySem.F.slot_list_pop PySem.F.type_list_pop mt_oPop (me_var 2) (ma_cons (me_call tk (hr.mono (by decide)) hgd c__law_any_2 rfl rfl (ma_cons (me_var 0) (ma_cons (me_blt bl_len rfl T.z_len bt_len (ma_cons (me_var 2) ma_nil)) ma_nil))) ma_nil)) ma_nil)))))
    (ms_one (ms_ret (me_var 3)))))
theorem ok__law_columns {f : Addr} {fd : FuncData} (Fu : Fun K "_law_columns" "_law_columns" s__law_columns f fd) (T : Txt P K mg) : FnG P w K mg base 1 f fd ["columns"] F__law_columns := by
  refine fn_g Fu sc__law_columns (by decide) fun cd A outer s H E hr hgd hp tk => ?_
  have nd := sc__law_columns.nd
  have hu := hu65 hr
  exact (ms_one (ms_ret (me_comp (own := [("state", 1)]) false [1] rfl nd (mi_range1 (me_blt bl_len rfl T.z_len bt_len (ma_cons (me_ixA hu (me_var 0) me_int) ma_nil)) rfl T.z_range) (mgo_name 1 nd) mts_nil (fun _ _ _ _ _ => (me_comp (own := [("column", 2)]) false [2] rfl nd (mi_seq (me_var 0)) (mgo_name 2 nd) mts_nil (fun _ _ _ _ _ => (me_ixA hu (me_var 2) (me_var 1))))))))
theorem ok__law_column {f : Addr} {fd : FuncData} (Fu : Fun K "_law_column" "_law_column" s__law_column f fd) (T : Txt P K mg) (c__law_any_2 : Cal P w K mg base 1 "_law_any" 2 [] [0, 1] F__law_any) (c__law_mixed_2 : Cal P w K mg base 3 "_law_mixed" 2 [] [0, 1] F__law_mixed) : FnG P w K mg base 5 f fd ["deal", "form", "many"] F__law_column := by
  refine fn_g Fu sc__law_column (by decide) fun cd A outer s H E hr hgd hp tk => ?_
  have nd := sc__law_column.nd
  have hu := hu65 hr
  exact (ms_cons (ms_set 3 nd (me_call tk (hr.mono (by decide)) hgd c__law_any_2 rfl rfl (ma_cons (me_var 0) (ma_cons (me_var 2) ma_nil))))
    (ms_cons (ms_if (mt_cmp (bo_eq hu) (me_var 1) me_int) (ms_one (ms_ret (me_comp (own := [("state", 5)]) false [5] rfl nd (mi_range1 (me_var 2) rfl T.z_range) (mgo_name 5 nd) mts_nil (fun _ _ _ _ _ => (me_bin bo_mod (me_bty bl_int rfl T.z_int bt_int (ma_cons (me_bin (bo_add false) (me_var 5) (me_var 3)) ma_nil)) (me_var 2)))))) ms_nil)
    (ms_cons (ms_if (mt_cmp (bo_eq hu) (me_var 1) me_int) (ms_one (ms_ret (me_bin (bo_mul false) (me_lst false (ma_cons (me_var 3) ma_nil)) (me_var 2)))) ms_nil)
    (ms_cons (ms_if (mt_cmp (bo_eq hu) (me_var 1) me_int) (ms_one (ms_ret (me_comp (own := [("state", 5)]) false [5] rfl nd (mi_range1 (me_var 2) rfl T.z_range) (mgo_name 5 nd) mts_nil (fun _ _ _ _ _ => (me_if (mt_cmp (bo_eq hu) (me_var 5) me_int) (me_var 3) (me_var 5)))))) ms_nil)
    (ms_cons (ms_if (mt_cmp (bo_eq hu) (me_var 1) me_int) (ms_one (ms_ret (me_comp (own := [("state", 5)]) false [5] rfl nd (mi_range1 (me_var 2) rfl T.z_range) (mgo_name 5 nd) mts_nil (fun _ _ _ _ _ => (me_blt (bl_max2 rfl) rfl T.z_max bt_max (ma_cons me_int (ma_cons (me_blt (bl_min2 rfl) rfl T.z_min bt_min (ma_cons (me_bin bo_sub (me_var 2) me_int) (ma_cons (me_bin bo_sub (me_bin (bo_add false) (me_var 5) (me_var 3)) me_int) ma_nil))) ma_nil))))))) ms_nil)
    (ms_cons (ms_if (mt_cmp (bo_eq hu) (me_var 1) me_int) (ms_one (ms_ret (me_call tk (hr.mono (by decide)) hgd c__law_mixed_2 rfl rfl (ma_cons (me_var 0) (ma_cons (me_listRg1 false rfl (me_var 2) rfl T.z_list rfl T.z_range) ma_nil))))) ms_nil)
    (ms_cons (ms_if (mt_cmp (bo_eq hu) (me_var 1) me_int) (ms_one (ms_ret (me_comp (own := [("state", 5)]) false [5] rfl nd (mi_range1 (me_var 2) rfl T.z_range) (mgo_name 5 nd) mts_nil (fun _ _ _ _ _ => (me_blt (bl_max2 rfl) rfl T.z_max bt_max (ma_cons (me_var 5) (ma_cons (me_var 3) ma_nil))))))) ms_nil)
    (ms_cons (ms_if (mt_cmp (bo_eq hu) (me_var 1) me_int) (ms_cons (ms_set 4 nd (me_blt (bl_max2 rfl) rfl T.z_max bt_max (ma_cons me_int (ma_cons (me_bin bo_fdiv (me_var 2) me_int) ma_nil))))
    (ms_one (ms_ret (me_comp (own := [("state", 5)]) false [5] rfl nd (mi_range1 (me_var 2) rfl T.z_range) (mgo_name 5 nd) mts_nil (fun _ _ _ _ _ => (me_bin (bo_add false) (me_bin bo_mod (me_bty bl_int rfl T.z_int bt_int (ma_cons (me_bin (bo_add false) (me_var 5) (me_var 3)) ma_nil)) (me_var 4)) (me_if (mt_of (mw_and (mt_cmp bo_ge (me_var 5) (me_var 4)) (mw_and1 (mt_cmp bo_le (me_bin (bo_mul false) me_int (me_var 4)) (me_var 2))))) (me_var 4) me_int))))))) ms_nil)
    (ms_one (ms_ret (me_comp (own := [("state", 5)]) false [5] rfl nd (mi_range1 (me_var 2) rfl T.z_range) (mgo_name 5 nd) mts_nil (fun _ _ _ _ _ => (me_call takesN (hr.mono (by decide)) hgd c__law_any_2 rfl rfl (ma_cons (me_var 0) (ma_cons (me_var 2) ma_nil)))))))))))))))
theorem ok__law_machine {f : Addr} {fd : FuncData} (Fu : Fun K "_law_machine" "_law_machine" s__law_machine f fd) (T : Txt P K mg) (c__law_of_2 : Cal P w K mg base 3 "_law_of" 2 [] [0, 1] F__law_of) (c__law_any_2 : Cal P w K mg base 1 "_law_any" 2 [] [0, 1] F__law_any) (c__law_column_3 : Cal P w K mg base 5 "_law_column" 3 [] [0, 1, 2] F__law_column) (c__law_columns_1 : Cal P w K mg base 1 "_law_columns" 1 [] [0] F__law_columns) : FnG P w K mg base 7 f fd ["deal", "most"] F__law_machine := by
  refine fn_g Fu sc__law_machine (by decide) fun cd A outer s H E hr hgd hp tk => ?_
  have nd := sc__law_machine.nd
  have hu := hu65 hr
  exact (ms_cons (ms_par 2 3 rfl nd (ma_cons (me_call tk (hr.mono (by decide)) hgd c__law_any_2 rfl rfl (ma_cons (me_var 0) (ma_cons me_int ma_nil))) (ma_cons (me_call tk (hr.mono (by decide)) hgd c__law_of_2 rfl rfl (ma_cons (me_var 0) (ma_cons (me_lst false (ma_cons me_int (ma_cons me_int (ma_cons me_int (ma_cons me_int (ma_cons me_int ma_nil)))))) ma_nil))) ma_nil)))
    (ms_cons (ms_if (mt_of (mw_and (mt_cmp (bo_eq hu) (me_var 2) me_int) (mw_and1 (mt_cmp bo_gt (me_var 1) me_int)))) (ms_one (ms_ret (me_tup (ma_cons me_int (ma_cons (me_lst false (ma_cons (me_lst false (ma_cons me_int (ma_cons me_int ma_nil))) (ma_cons (me_lst false (ma_cons me_int (ma_cons me_int ma_nil))) (ma_cons (me_lst false (ma_cons me_int (ma_cons me_int ma_nil))) (ma_cons (me_lst false (ma_cons me_int (ma_cons me_int ma_nil))) ma_nil))))) ma_nil))))) ms_nil)
    (ms_cons (ms_if (mt_of (mw_and (mt_cmp (bo_eq hu) (me_var 2) me_int) (mw_and1 (mt_cmp bo_gt (me_var 1) me_int)))) (ms_cons (ms_asg (me_tup (ma_cons (me_call tk (hr.mono (by decide)) hgd c__law_any_2 rfl rfl (ma_cons (me_var 0) (ma_cons me_int ma_nil))) (ma_cons (me_call tk (hr.mono (by decide)) hgd c__law_of_2 rfl rfl (ma_cons (me_var 0) (ma_cons (me_lst false (ma_cons me_int (ma_cons me_int ma_nil))) ma_nil))) ma_nil))) (mg_tup rfl (mgs_cons (mg_name 4 nd) (mgs_cons (mg_name 5 nd) mgs_nil))))
    (ms_one (ms_ret (me_tup (ma_cons me_int (ma_cons (me_comp (own := [("s", 10)]) false [10] rfl nd (mi_range1 me_int rfl T.z_range) (mgo_name 10 nd) mts_nil (fun _ _ _ _ _ => (me_lst false (ma_cons (me_bin (bo_add false) (me_bin (bo_mul false) me_int (me_bin bo_fdiv (me_var 10) me_int)) (me_var 4)) (ma_cons (me_if (mt_cmp (bo_eq hu) (me_bin bo_mod (me_var 10) me_int) me_int) (me_bin bo_mod (me_bty bl_int rfl T.z_int bt_int (ma_cons (me_bin (bo_add false) (me_var 10) (me_var 5)) ma_nil)) me_int) (me_bin bo_mod (me_bty bl_int rfl T.z_int bt_int (ma_cons (me_bin (bo_add false) (me_var 10) me_int) ma_nil)) me_int)) ma_nil))))) ma_nil)))))) ms_nil)
    (ms_cons (ms_par 6 7 rfl nd (ma_cons (me_bin (bo_add false) me_int (me_call tk (hr.mono (by decide)) hgd c__law_any_2 rfl rfl (ma_cons (me_var 0) (ma_cons (me_var 1) ma_nil)))) (ma_cons (me_lst true ma_nil) ma_nil)))
    (ms_cons (ms_for hp rfl (mi_range1 (me_var 3) rfl T.z_range) (mg_name 8 nd) (ms_cons (ms_set 9 nd (me_if (mt_cmp bo_gt (me_var 2) me_int) (me_call tk (hr.mono (by decide)) hgd c__law_any_2 rfl rfl (ma_cons (me_var 0) (ma_cons me_int ma_nil))) (me_var 2)))
    (ms_one (ms_drop (me_lm PySem.F.slot_list_append PySem.F.type_list_append mt_oAppend (me_var 7) (ma_cons (me_call tk (hr.mono (by decide)) hgd c__law_column_3 rfl rfl (ma_cons (me_var 0) (ma_cons (me_var 9) (ma_cons (me_var 6) ma_nil)))) ma_nil))))))
    (ms_one (ms_ret (me_tup (ma_cons (me_var 3) (ma_cons (me_call tk (hr.mono (by decide)) hgd c__law_columns_1 rfl rfl (ma_cons (me_var 7) ma_nil)) ma_nil))))))))))
theorem ok__law_led {f : Addr} {fd : FuncData} (Fu : Fun K "_law_led" "_law_led" s__law_led f fd) (T : Txt P K mg) : FnG P w K mg base 1 f fd ["steps", "state", "row"] F__law_led := by
  refine fn_g Fu sc__law_led (by decide) fun cd A outer s H E hr hgd hp tk => ?_
  have nd := sc__law_led.nd
  have hu := hu65 hr
  exact (ms_cons (ms_for hp rfl (mi_seq (me_var 2)) (mg_name 3 nd) (ms_one (ms_set 1 nd (me_ixA hu (me_ixA hu (me_var 0) (me_var 1)) (me_var 3)))))
    (ms_one (ms_ret (me_var 1))))
theorem ok__law_heap {f : Addr} {fd : FuncData} (Fu : Fun K "_law_heap" "_law_heap" s__law_heap f fd) (T : Txt P K mg) (c__law_any_2 : Cal P w K mg base 1 "_law_any" 2 [] [0, 1] F__law_any) : FnG P w K mg base 3 f fd ["deal", "commands", "many"] F__law_heap := by
  refine fn_g Fu sc__law_heap (by decide) fun cd A outer s H E hr hgd hp tk => ?_
  have nd := sc__law_heap.nd
  have hu := hu65 hr
  exact (ms_cons (ms_par 3 4 rfl nd (ma_cons (me_call tk (hr.mono (by decide)) hgd c__law_any_2 rfl rfl (ma_cons (me_var 0) (ma_cons me_int ma_nil))) (ma_cons (me_lst true ma_nil) ma_nil)))
    (ms_cons (ms_for hp rfl (mi_range1 (me_var 2) rfl T.z_range) (mg_name 5 nd) (ms_cons (ms_drop (me_lm PySem.F.slot_list_append PySem.F.type_list_append mt_oAppend (me_var 4) (ma_cons (me_tup (ma_cons (me_var 3) (ma_cons (me_call tk (hr.mono (by decide)) hgd c__law_any_2 rfl rfl (ma_cons (me_var 0) (ma_cons (me_var 1) ma_nil))) ma_nil))) ma_nil)))
    (ms_one (ms_set 3 nd (me_bin (bo_add false) (me_bin (bo_add false) (me_var 3) me_int) (me_call tk (hr.mono (by decide)) hgd c__law_any_2 rfl rfl (ma_cons (me_var 0) (ma_cons me_int ma_nil))))))))
    (ms_one (ms_ret (me_bty bl_tuple rfl T.z_tuple bt_tuple (ma_cons (me_var 4) ma_nil))))))
theorem ok__law_asked {f : Addr} {fd : FuncData} (Fu : Fun K "_law_asked" "_law_asked" s__law_asked f fd) (T : Txt P K mg) (c_checked_heap_0_value_machine : Cal P w K mg base 9 "checked_heap" 0 ["value", "machine"] [1, 0] F_checked_heap) (c_put_in_0_slip_heap_machine : Cal P w K mg base 11 "put_in" 0 ["slip", "heap", "machine"] [2, 1, 0] F_put_in) (c_row_of_0_heap_machine : Cal P w K mg base 11 "row_of" 0 ["heap", "machine"] [1, 0] F_row_of) (c_truth_0_heap_state_machine : Cal P w K mg base 13 "truth" 0 ["heap", "state", "machine"] [2, 1, 0] F_truth) (c_checked_slip_0_value_machine : Cal P w K mg base 9 "checked_slip" 0 ["value", "machine"] [1, 0] F_checked_slip) : FnG P w K mg base 15 f fd ["machine", "form", "heap", "other"] F__law_asked := by
  refine fn_g Fu sc__law_asked (by decide) fun cd A outer s H E hr hgd hp tk => ?_
  have nd := sc__law_asked.nd
  have hu := hu65 hr
  exact (ms_one (ms_try rfl rfl tk (fun W pn xe tk hp => (ms_cons (ms_if (mt_cmp (bo_eq hu) (me_var 1) me_int) (ms_one (ms_ret (me_tup (ma_cons me_str (ma_cons (me_callK0 tk (hr.mono (by decide)) hgd c_checked_heap_0_value_machine rfl rfl (mk_cons (me_var 2) (mk_cons (me_var 0) mk_nil))) ma_nil))))) ms_nil)
    (ms_cons (ms_if (mt_cmp (bo_eq hu) (me_var 1) me_int) (ms_one (ms_ret (me_tup (ma_cons me_str (ma_cons (me_callK0 tk (hr.mono (by decide)) hgd c_put_in_0_slip_heap_machine rfl rfl (mk_cons (me_var 3) (mk_cons (me_var 2) (mk_cons (me_var 0) mk_nil)))) ma_nil))))) ms_nil)
    (ms_cons (ms_if (mt_cmp (bo_eq hu) (me_var 1) me_int) (ms_one (ms_ret (me_tup (ma_cons me_str (ma_cons (me_callK0 tk (hr.mono (by decide)) hgd c_row_of_0_heap_machine rfl rfl (mk_cons (me_var 2) (mk_cons (me_var 0) mk_nil))) ma_nil))))) ms_nil)
    (ms_one (ms_ret (me_tup (ma_cons me_str (ma_cons (me_if (mt_cmp (bo_eq hu) (me_var 1) me_int) (me_callK0 tk (hr.mono (by decide)) hgd c_truth_0_heap_state_machine rfl rfl (mk_cons (me_var 2) (mk_cons (me_var 3) (mk_cons (me_var 0) mk_nil)))) (me_callK0 tk (hr.mono (by decide)) hgd c_checked_slip_0_value_machine rfl rfl (mk_cons (me_var 3) (mk_cons (me_var 0) mk_nil)))) ma_nil))))))))) (mcl_namedO (ExT.of T.exT) 4 nd T.r_InvalidSlip (fun a oe cls q pn hz hf hx => (ms_one (ms_ret (me_tup (ma_cons me_str (ma_cons (me_xat 4 hz hf hx) ma_nil)))))) (mcl_namedO (ExT.of T.exT) 4 nd T.r_Refused (fun a oe cls q pn hz hf hx => (ms_one (ms_ret (me_tup (ma_cons me_str (ma_cons (me_xat 4 hz hf hx) ma_nil)))))) mcl_nil))))
theorem ok__law_bad_slip {f : Addr} {fd : FuncData} (Fu : Fun K "_law_bad_slip" "_law_bad_slip" s__law_bad_slip f fd) (T : Txt P K mg) (c__law_of_2 : Cal P w K mg base 3 "_law_of" 2 [] [0, 1] F__law_of) : FnG P w K mg base 5 f fd ["deal", "commands"] F__law_bad_slip := by
  refine fn_g Fu sc__law_bad_slip (by decide) fun cd A outer s H E hr hgd hp tk => ?_
  have nd := sc__law_bad_slip.nd
  have hu := hu65 hr
  exact (ms_cons (ms_set 2 nd (me_lst false (ma_cons (me_lst false (ma_cons me_int (ma_cons me_int ma_nil))) (ma_cons (me_tup (ma_cons me_int ma_nil)) (ma_cons (me_tup (ma_cons me_int (ma_cons me_int (ma_cons me_int ma_nil)))) (ma_cons me_non (ma_cons (me_tup (ma_cons (me_neg me_int) (ma_cons me_int ma_nil))) (ma_cons (me_tup (ma_cons me_bl (ma_cons me_int ma_nil))) (ma_cons (me_tup (ma_cons me_int (ma_cons (me_var 1) ma_nil))) (ma_cons (me_tup (ma_cons me_int (ma_cons me_bl ma_nil))) (ma_cons (me_tup (ma_cons me_str (ma_cons me_int ma_nil))) (ma_cons (me_tup (ma_cons me_int (ma_cons me_non ma_nil))) ma_nil))))))))))))
    (ms_one (ms_ret (me_call tk (hr.mono (by decide)) hgd c__law_of_2 rfl rfl (ma_cons (me_var 0) (ma_cons (me_var 2) ma_nil))))))
theorem ok__law_wide {f : Addr} {fd : FuncData} (Fu : Fun K "_law_wide" "_law_wide" s__law_wide f fd) (T : Txt P K mg) (c__law_machine_2 : Cal P w K mg base 7 "_law_machine" 2 [] [0, 1] F__law_machine) (c__law_any_2 : Cal P w K mg base 1 "_law_any" 2 [] [0, 1] F__law_any) : FnG P w K mg base 9 f fd ["deal", "most"] F__law_wide := by
  refine fn_g Fu sc__law_wide (by decide) fun cd A outer s H E hr hgd hp tk => ?_
  have nd := sc__law_wide.nd
  have hu := hu65 hr
  exact (ms_cons (ms_asg (me_call tk (hr.mono (by decide)) hgd c__law_machine_2 rfl rfl (ma_cons (me_var 0) (ma_cons (me_var 1) ma_nil))) (mg_tup rfl (mgs_cons (mg_name 2 nd) (mgs_cons (mg_name 3 nd) mgs_nil))))
    (ms_cons (ms_if (mt_cmp bo_gt (me_call tk (hr.mono (by decide)) hgd c__law_any_2 rfl rfl (ma_cons (me_var 0) (ma_cons me_int ma_nil))) me_int) (ms_one (ms_ret (me_tup (ma_cons (me_var 2) (ma_cons (me_var 3) ma_nil))))) ms_nil)
    (ms_one (ms_ret (me_tup (ma_cons me_int (ma_cons (me_comp (own := [("row", 4)]) false [4] rfl nd (mi_seq (me_var 3)) (mgo_name 4 nd) mts_nil (fun _ _ _ _ _ => (me_bin (bo_add false) (me_bty (bl_list false) rfl T.z_list bt_list (ma_cons (me_var 4) ma_nil)) (me_comp (own := [("more", 5)]) false [5] rfl nd (mi_range1 (me_bin bo_sub me_int (me_var 2)) rfl T.z_range) (mgo_name 5 nd) mts_nil (fun _ _ _ _ _ => (me_call takesN (hr.mono (by decide)) hgd c__law_any_2 rfl rfl (ma_cons (me_var 0) (ma_cons (me_blt bl_len rfl T.z_len bt_len (ma_cons (me_var 3) ma_nil)) ma_nil)))))))) ma_nil)))))))
theorem ok__law_parts_at {f : Addr} {fd : FuncData} (Fu : Fun K "_law_parts_at" "_law_parts_at" s__law_parts_at f fd) (T : Txt P K mg) (c_since_3 : Cal P w K mg base 11 "since" 3 [] [0, 1, 2] F_since) (c_until_3 : Cal P w K mg base 11 "until" 3 [] [0, 1, 2] F_until) : FnG P w K mg base 13 f fd ["machine", "heap", "time"] F__law_parts_at := by
  refine fn_g Fu sc__law_parts_at (by decide) fun cd A outer s H E hr hgd hp tk => ?_
  have nd := sc__law_parts_at.nd
  have hu := hu65 hr
  exact (ms_cons (ms_set 3 nd (me_lst true ma_nil))
    (ms_cons (ms_for hp rfl (mi_range1 me_int rfl T.z_range) (mg_name 4 nd) (ms_one (ms_try rfl rfl tk (fun W pn xe tk hp => (ms_one (ms_drop (me_lm PySem.F.slot_list_append PySem.F.type_list_append mt_oAppend (me_var 3) (ma_cons (me_tup (ma_cons me_str (ma_cons (me_if (mt_cmp (bo_eq hu) (me_var 4) me_int) (me_call tk (hr.mono (by decide)) hgd c_since_3 rfl rfl (ma_cons (me_var 0) (ma_cons (me_var 1) (ma_cons (me_var 2) ma_nil)))) (me_call tk (hr.mono (by decide)) hgd c_until_3 rfl rfl (ma_cons (me_var 0) (ma_cons (me_var 1) (ma_cons (me_var 2) ma_nil))))) ma_nil))) ma_nil))))) (mcl_namedO (ExT.of T.exT) 5 nd T.r_InvalidSlip (fun a oe cls q pn hz hf hx => (ms_one (ms_drop (me_lm PySem.F.slot_list_append PySem.F.type_list_append mt_oAppend (me_var 3) (ma_cons (me_tup (ma_cons me_str (ma_cons (me_xat 5 hz hf hx) ma_nil))) ma_nil))))) mcl_nil))))
    (ms_one (ms_ret (me_var 3)))))
theorem ok_law {f : Addr} {fd : FuncData} (Fu : Fun K "law" "law" s_law f fd) (T : Txt P K mg) (c__law_draw_2 : Cal P w K mg base 1 "_law_draw" 2 [] [0, 1] F__law_draw) (c__law_wide_2 : Cal P w K mg base 9 "_law_wide" 2 [] [0, 1] F__law_wide) (c__law_any_2 : Cal P w K mg base 1 "_law_any" 2 [] [0, 1] F__law_any) (c__law_heap_3 : Cal P w K mg base 3 "_law_heap" 3 [] [0, 1, 2] F__law_heap) (c_Machine_2 : CalC P w K mg base 7 "Machine" 2 [] [0, 1, 2] F_Machine___init__) (c__law_mixed_2 : Cal P w K mg base 3 "_law_mixed" 2 [] [0, 1] F__law_mixed) (c__law_asked_4 : Cal P w K mg base 15 "_law_asked" 4 [] [0, 1, 2, 3] F__law_asked) (c__law_led_3 : Cal P w K mg base 1 "_law_led" 3 [] [0, 1, 2] F__law_led) (c_since_0_time_heap_machine : Cal P w K mg base 11 "since" 0 ["time", "heap", "machine"] [2, 1, 0] F_since) (c_until_0_time_heap_machine : Cal P w K mg base 11 "until" 0 ["time", "heap", "machine"] [2, 1, 0] F_until) (c_put_in_3 : Cal P w K mg base 11 "put_in" 3 [] [0, 1, 2] F_put_in) (c_checked_heap_2 : Cal P w K mg base 9 "checked_heap" 2 [] [0, 1] F_checked_heap) (c__law_bad_slip_2 : Cal P w K mg base 5 "_law_bad_slip" 2 [] [0, 1] F__law_bad_slip) (c__law_parts_at_3 : Cal P w K mg base 13 "_law_parts_at" 3 [] [0, 1, 2] F__law_parts_at) (c__law_of_2 : Cal P w K mg base 3 "_law_of" 2 [] [0, 1] F__law_of) : FnG P w K mg base 17 f fd ["script"] F_law := by
  refine fn_g Fu sc_law (by decide) fun cd A outer s H E hr hgd hp tk => ?_
  have nd := sc_law.nd
  have hu := hu65 hr
  exact (ms_cons (ms_set 1 nd (me_call tk (hr.mono (by decide)) hgd c__law_draw_2 rfl rfl (ma_cons (me_var 0) (ma_cons me_int ma_nil))))
    (ms_cons (ms_asg (me_call tk (hr.mono (by decide)) hgd c__law_wide_2 rfl rfl (ma_cons (me_var 1) (ma_cons me_int ma_nil))) (mg_tup rfl (mgs_cons (mg_name 2 nd) (mgs_cons (mg_name 3 nd) mgs_nil))))
    (ms_cons (ms_set 4 nd (me_if (mt_cmp bo_gt (me_call tk (hr.mono (by decide)) hgd c__law_any_2 rfl rfl (ma_cons (me_var 1) (ma_cons me_int ma_nil))) me_int) (me_call tk (hr.mono (by decide)) hgd c__law_any_2 rfl rfl (ma_cons (me_var 1) (ma_cons me_int ma_nil))) (me_bin (bo_add false) me_int (me_call tk (hr.mono (by decide)) hgd c__law_any_2 rfl rfl (ma_cons (me_var 1) (ma_cons me_int ma_nil))))))
    (ms_cons (ms_par 5 6 rfl nd (ma_cons (me_make tk (hr.mono (by decide)) hgd c_Machine_2 rfl rfl (ma_cons (me_var 2) (ma_cons (me_var 3) ma_nil))) (ma_cons (me_call tk (hr.mono (by decide)) hgd c__law_heap_3 rfl rfl (ma_cons (me_var 1) (ma_cons (me_var 2) (ma_cons (me_var 4) ma_nil)))) ma_nil)))
    (ms_cons (ms_set 7 nd (me_call tk (hr.mono (by decide)) hgd c__law_mixed_2 rfl rfl (ma_cons (me_var 1) (ma_cons (me_var 6) ma_nil))))
    (ms_cons (ms_set 8 nd (me_if (mt_cmp (bo_eq hu) (me_call tk (hr.mono (by decide)) hgd c__law_any_2 rfl rfl (ma_cons (me_var 1) (ma_cons me_int ma_nil))) me_int) (me_var 7) (me_bty bl_tuple rfl T.z_tuple bt_tuple (ma_cons (me_var 7) ma_nil))))
    (ms_cons (ms_if (mt_cmp (bo_ne hu) (me_blt (bl_repr hgd hu) rfl T.z_repr bt_repr (ma_cons (me_call tk (hr.mono (by decide)) hgd c__law_asked_4 rfl rfl (ma_cons (me_var 5) (ma_cons me_int (ma_cons (me_var 8) (ma_cons me_non ma_nil))))) ma_nil)) (me_blt (bl_repr hgd hu) rfl T.z_repr bt_repr (ma_cons (me_tup (ma_cons me_str (ma_cons (me_var 6) ma_nil))) ma_nil))) (ms_one (ms_ret me_bl)) ms_nil)
    (ms_cons (ms_if (mt_cmp (bo_ne hu) (me_blt (bl_repr hgd hu) rfl T.z_repr bt_repr (ma_cons (me_call tk (hr.mono (by decide)) hgd c__law_asked_4 rfl rfl (ma_cons (me_var 5) (ma_cons me_int (ma_cons (me_var 8) (ma_cons me_non ma_nil))))) ma_nil)) (me_blt (bl_repr hgd hu) rfl T.z_repr bt_repr (ma_cons (me_tup (ma_cons me_str (ma_cons (me_bty bl_tuple rfl T.z_tuple bt_tuple (ma_cons (me_comp (own := [("time", 10), ("command", 20)]) false [10, 20] rfl nd (mi_seq (me_var 6)) (mgo_tup rfl (mgos_cons (mgo_name 10 nd) (mgos_cons (mgo_name 20 nd) mgos_nil))) mts_nil (fun _ _ _ _ _ => (me_var 20))) ma_nil)) ma_nil))) ma_nil))) (ms_one (ms_ret me_bl)) ms_nil)
    (ms_cons (ms_asg (me_tup (ma_cons (me_call tk (hr.mono (by decide)) hgd c__law_any_2 rfl rfl (ma_cons (me_var 1) (ma_cons (me_blt bl_len rfl T.z_len bt_len (ma_cons (me_var 3) ma_nil)) ma_nil))) (ma_cons (me_call tk (hr.mono (by decide)) hgd c__law_any_2 rfl rfl (ma_cons (me_var 1) (ma_cons (me_if (mt_cmp bo_lt (me_var 4) me_int) me_int me_int) ma_nil))) ma_nil))) (mg_tup rfl (mgs_cons (mg_name 9 nd) (mgs_cons (mg_name 10 nd) mgs_nil))))
    (ms_cons (ms_if (mt_cmp (bo_ne hu) (me_blt (bl_repr hgd hu) rfl T.z_repr bt_repr (ma_cons (me_call tk (hr.mono (by decide)) hgd c__law_asked_4 rfl rfl (ma_cons (me_var 5) (ma_cons me_int (ma_cons (me_var 8) (ma_cons (me_var 9) ma_nil))))) ma_nil)) (me_blt (bl_repr hgd hu) rfl T.z_repr bt_repr (ma_cons (me_tup (ma_cons me_str (ma_cons (me_call tk (hr.mono (by decide)) hgd c__law_led_3 rfl rfl (ma_cons (me_var 3) (ma_cons (me_var 9) (ma_cons (me_comp (own := [("at", 21), ("command", 20)]) false [21, 20] rfl nd (mi_seq (me_var 6)) (mgo_tup rfl (mgos_cons (mgo_name 21 nd) (mgos_cons (mgo_name 20 nd) mgos_nil))) mts_nil (fun _ _ _ _ _ => (me_var 20))) ma_nil)))) ma_nil))) ma_nil))) (ms_one (ms_ret me_bl)) ms_nil)
    (ms_cons (ms_if (mt_cmp (bo_ne hu) (me_blt (bl_repr hgd hu) rfl T.z_repr bt_repr (ma_cons (me_callK0 tk (hr.mono (by decide)) hgd c_since_0_time_heap_machine rfl rfl (mk_cons (me_var 10) (mk_cons (me_var 8) (mk_cons (me_var 5) mk_nil)))) ma_nil)) (me_blt (bl_repr hgd hu) rfl T.z_repr bt_repr (ma_cons (me_bty bl_tuple rfl T.z_tuple bt_tuple (ma_cons (me_comp (own := [("slip", 11)]) false [11] rfl nd (mi_seq (me_var 6)) (mgo_name 11 nd) (mts_one fun _ _ _ _ _ => (mt_cmp bo_gt (me_ixA hu (me_var 11) me_int) (me_var 10))) (fun _ _ _ _ _ => (me_var 11))) ma_nil)) ma_nil))) (ms_one (ms_ret me_bl)) ms_nil)
    (ms_cons (ms_if (mt_cmp (bo_ne hu) (me_blt (bl_repr hgd hu) rfl T.z_repr bt_repr (ma_cons (me_callK0 tk (hr.mono (by decide)) hgd c_until_0_time_heap_machine rfl rfl (mk_cons (me_var 10) (mk_cons (me_var 8) (mk_cons (me_var 5) mk_nil)))) ma_nil)) (me_blt (bl_repr hgd hu) rfl T.z_repr bt_repr (ma_cons (me_bty bl_tuple rfl T.z_tuple bt_tuple (ma_cons (me_comp (own := [("slip", 11)]) false [11] rfl nd (mi_seq (me_var 6)) (mgo_name 11 nd) (mts_one fun _ _ _ _ _ => (mt_cmp bo_lt (me_ixA hu (me_var 11) me_int) (me_var 10))) (fun _ _ _ _ _ => (me_var 11))) ma_nil)) ma_nil))) (ms_one (ms_ret me_bl)) ms_nil)
    (ms_cons (ms_set 11 nd (me_tup (ma_cons (me_var 10) (ma_cons (me_call tk (hr.mono (by decide)) hgd c__law_any_2 rfl rfl (ma_cons (me_var 1) (ma_cons (me_var 2) ma_nil))) ma_nil))))
    (ms_cons (ms_set 12 nd (me_if (mt_cmp (bo_inA hu) (me_var 10) (me_comp (own := [("at", 21), ("command", 20)]) false [21, 20] rfl nd (mi_seq (me_var 6)) (mgo_tup rfl (mgos_cons (mgo_name 21 nd) (mgos_cons (mgo_name 20 nd) mgos_nil))) mts_nil (fun _ _ _ _ _ => (me_var 21)))) (me_tup (ma_cons me_str (ma_cons me_int ma_nil))) (me_tup (ma_cons me_str (ma_cons (me_bty bl_tuple rfl T.z_tuple bt_tuple (ma_cons (me_blt (bl_sorted false) rfl T.z_sorted bt_sorted (ma_cons (me_bin (bo_add false) (me_var 6) (me_tup (ma_cons (me_var 11) ma_nil))) ma_nil)) ma_nil)) ma_nil)))))
    (ms_cons (ms_if (mt_cmp (bo_ne hu) (me_blt (bl_repr hgd hu) rfl T.z_repr bt_repr (ma_cons (me_lst false (ma_cons (me_call tk (hr.mono (by decide)) hgd c__law_asked_4 rfl rfl (ma_cons (me_var 5) (ma_cons me_int (ma_cons (me_var 8) (ma_cons (me_var 11) ma_nil))))) (ma_cons (me_call tk (hr.mono (by decide)) hgd c__law_asked_4 rfl rfl (ma_cons (me_var 5) (ma_cons me_int (ma_cons me_non (ma_cons (me_var 11) ma_nil))))) ma_nil))) ma_nil)) (me_blt (bl_repr hgd hu) rfl T.z_repr bt_repr (ma_cons (me_lst false (ma_cons (me_var 12) (ma_cons (me_tup (ma_cons me_str (ma_cons (me_var 11) ma_nil))) ma_nil))) ma_nil))) (ms_one (ms_ret me_bl)) ms_nil)
    (ms_cons (ms_set 13 nd (me_tup ma_nil))
    (ms_cons (ms_for hp rfl (mi_seq (me_call tk (hr.mono (by decide)) hgd c__law_mixed_2 rfl rfl (ma_cons (me_var 1) (ma_cons (me_sl false (me_var 6) mo_none (mo_some me_int)) ma_nil)))) (mg_name 14 nd) (ms_one (ms_set 13 nd (me_call tk (hr.mono (by decide)) hgd c_put_in_3 rfl rfl (ma_cons (me_var 5) (ma_cons (me_var 13) (ma_cons (me_var 14) ma_nil)))))))
    (ms_cons (ms_if (mt_cmp (bo_ne hu) (me_blt (bl_repr hgd hu) rfl T.z_repr bt_repr (ma_cons (me_var 13) ma_nil)) (me_blt (bl_repr hgd hu) rfl T.z_repr bt_repr (ma_cons (me_sl false (me_var 6) mo_none (mo_some me_int)) ma_nil))) (ms_one (ms_ret me_bl)) ms_nil)
    (ms_cons (ms_set 15 nd (me_call tk (hr.mono (by decide)) hgd c_checked_heap_2 rfl rfl (ma_cons (me_var 5) (ma_cons (me_var 7) ma_nil))))
    (ms_cons (ms_drop (me_lm PySem.F.slot_list_append PySem.F.type_list_append mt_oAppend (me_var 7) (ma_cons me_non ma_nil)))
    (ms_cons (ms_if (mt_cmp (bo_ne hu) (me_blt (bl_repr hgd hu) rfl T.z_repr bt_repr (ma_cons (me_var 15) ma_nil)) (me_blt (bl_repr hgd hu) rfl T.z_repr bt_repr (ma_cons (me_var 6) ma_nil))) (ms_one (ms_ret me_bl)) ms_nil)
    (ms_cons (ms_par 16 17 rfl nd (ma_cons (me_call tk (hr.mono (by decide)) hgd c__law_bad_slip_2 rfl rfl (ma_cons (me_var 1) (ma_cons (me_var 2) ma_nil))) (ma_cons (me_call tk (hr.mono (by decide)) hgd c__law_any_2 rfl rfl (ma_cons (me_var 1) (ma_cons (me_bin (bo_add false) (me_blt bl_len rfl T.z_len bt_len (ma_cons (me_var 6) ma_nil)) me_int) ma_nil))) ma_nil)))
    (ms_cons (ms_set 18 nd (me_bin (bo_add false) (me_bin (bo_add false) (me_bty (bl_list false) rfl T.z_list bt_list (ma_cons (me_sl false (me_var 6) mo_none (mo_some (me_var 17))) ma_nil)) (me_lst false (ma_cons (me_var 16) ma_nil))) (me_bty (bl_list false) rfl T.z_list bt_list (ma_cons (me_sl false (me_var 6) (mo_some (me_var 17)) mo_none) ma_nil))))
    (ms_cons (ms_if (mt_cmp (bo_ne hu) (me_blt (bl_repr hgd hu) rfl T.z_repr bt_repr (ma_cons (me_bin (bo_add false) (me_call tk (hr.mono (by decide)) hgd c__law_parts_at_3 rfl rfl (ma_cons (me_var 5) (ma_cons (me_var 18) (ma_cons (me_var 10) ma_nil)))) (me_call tk (hr.mono (by decide)) hgd c__law_parts_at_3 rfl rfl (ma_cons (me_var 5) (ma_cons me_non (ma_cons (me_var 10) ma_nil))))) ma_nil)) (me_blt (bl_repr hgd hu) rfl T.z_repr bt_repr (ma_cons (me_bin (bo_add false) (me_bin (bo_mul false) (me_lst false (ma_cons (me_tup (ma_cons me_str (ma_cons (me_var 17) ma_nil))) ma_nil)) me_int) (me_bin (bo_mul false) (me_lst false (ma_cons (me_tup (ma_cons me_str (ma_cons me_int ma_nil))) ma_nil)) me_int)) ma_nil))) (ms_one (ms_ret me_bl)) ms_nil)
    (ms_cons (ms_if (mt_cmp (bo_ne hu) (me_blt (bl_repr hgd hu) rfl T.z_repr bt_repr (ma_cons (me_lst false (ma_cons (me_call tk (hr.mono (by decide)) hgd c__law_asked_4 rfl rfl (ma_cons (me_var 5) (ma_cons me_int (ma_cons (me_var 18) (ma_cons me_non ma_nil))))) (ma_cons (me_call tk (hr.mono (by decide)) hgd c__law_asked_4 rfl rfl (ma_cons (me_var 5) (ma_cons me_int (ma_cons me_non (ma_cons (me_var 16) ma_nil))))) ma_nil))) ma_nil)) (me_blt (bl_repr hgd hu) rfl T.z_repr bt_repr (ma_cons (me_lst false (ma_cons (me_tup (ma_cons me_str (ma_cons (me_var 17) ma_nil))) (ma_cons (me_tup (ma_cons me_str (ma_cons me_int ma_nil))) ma_nil))) ma_nil))) (ms_one (ms_ret me_bl)) ms_nil)
    (ms_cons (ms_if (mt_cmp (bo_ne hu) (me_blt (bl_repr hgd hu) rfl T.z_repr bt_repr (ma_cons (me_lst false (ma_cons (me_call tk (hr.mono (by decide)) hgd c__law_asked_4 rfl rfl (ma_cons (me_var 5) (ma_cons me_int (ma_cons (me_var 18) (ma_cons (me_var 16) ma_nil))))) (ma_cons (me_call tk (hr.mono (by decide)) hgd c__law_asked_4 rfl rfl (ma_cons (me_var 5) (ma_cons me_int (ma_cons (me_var 6) (ma_cons (me_var 16) ma_nil))))) ma_nil))) ma_nil)) (me_blt (bl_repr hgd hu) rfl T.z_repr bt_repr (ma_cons (me_lst false (ma_cons (me_tup (ma_cons me_str (ma_cons (me_var 17) ma_nil))) (ma_cons (me_tup (ma_cons me_str (ma_cons me_int ma_nil))) ma_nil))) ma_nil))) (ms_one (ms_ret me_bl)) ms_nil)
    (ms_cons (ms_set 19 nd (me_call tk (hr.mono (by decide)) hgd c__law_of_2 rfl rfl (ma_cons (me_var 1) (ma_cons (me_lst false (ma_cons (me_blt bl_len rfl T.z_len bt_len (ma_cons (me_var 3) ma_nil)) (ma_cons (me_neg me_int) (ma_cons me_non (ma_cons me_bl (ma_cons me_str ma_nil)))))) ma_nil))))
    (ms_cons (ms_if (mt_cmp (bo_ne hu) (me_blt (bl_repr hgd hu) rfl T.z_repr bt_repr (ma_cons (me_lst false (ma_cons (me_call tk (hr.mono (by decide)) hgd c__law_asked_4 rfl rfl (ma_cons (me_var 5) (ma_cons me_int (ma_cons (me_var 18) (ma_cons (me_var 19) ma_nil))))) (ma_cons (me_call tk (hr.mono (by decide)) hgd c__law_asked_4 rfl rfl (ma_cons (me_var 5) (ma_cons me_int (ma_cons (me_var 18) (ma_cons (me_var 9) ma_nil))))) ma_nil))) ma_nil)) (me_blt (bl_repr hgd hu) rfl T.z_repr bt_repr (ma_cons (me_lst false (ma_cons (me_tup (ma_cons me_str (ma_cons me_int ma_nil))) (ma_cons (me_tup (ma_cons me_str (ma_cons (me_var 17) ma_nil))) ma_nil))) ma_nil))) (ms_one (ms_ret me_bl)) ms_nil)
    (ms_cons (ms_if (mt_of (mw_and (mt_cmp (bo_ne hu) (me_var 6) (me_tup ma_nil)) (mw_and1 (mt_cmp (bo_ne hu) (me_blt (bl_repr hgd hu) rfl T.z_repr bt_repr (ma_cons (me_call tk (hr.mono (by decide)) hgd c__law_asked_4 rfl rfl (ma_cons (me_var 5) (ma_cons me_int (ma_cons (me_bin (bo_add false) (me_var 6) (me_tup (ma_cons (me_ixA hu (me_var 6) me_int) ma_nil))) (ma_cons me_non ma_nil))))) ma_nil)) (me_blt (bl_repr hgd hu) rfl T.z_repr bt_repr (ma_cons (me_tup (ma_cons me_str (ma_cons (me_blt bl_len rfl T.z_len bt_len (ma_cons (me_var 6) ma_nil)) ma_nil))) ma_nil)))))) (ms_one (ms_ret me_bl)) ms_nil)
    (ms_one (ms_ret (me_cmp (bo_eq hu) (me_blt (bl_repr hgd hu) rfl T.z_repr bt_repr (ma_cons (me_call tk (hr.mono (by decide)) hgd c__law_asked_4 rfl rfl (ma_cons (me_var 5) (ma_cons me_int (ma_cons (me_call tk (hr.mono (by decide)) hgd c__law_of_2 rfl rfl (ma_cons (me_var 1) (ma_cons (me_lst false (ma_cons me_non (ma_cons me_int (ma_cons me_str (ma_cons me_dk ma_nil))))) ma_nil))) (ma_cons me_non ma_nil))))) ma_nil)) (me_blt (bl_repr hgd hu) rfl T.z_repr bt_repr (ma_cons (me_tup (ma_cons me_str (ma_cons me_int ma_nil))) ma_nil))))))))))))))))))))))))))))))))))
end
end K03

namespace K03
open PySem L2 Mi
theorem e_any : F__law_any = Dw.F__law_any := rfl
theorem e_of : F__law_of = Dw.F__law_of := rfl
theorem e_mixed : F__law_mixed = Dw.F__law_mixed := rfl
theorem e_machine : F__law_machine = Dw.F__law_machine := rfl
theorem e_heap : F__law_heap = Dw.F__law_heap := rfl
theorem e_draw : F__law_draw = Dw.F__law_draw := rfl
section
variable {st : Sto} {d v : D} {t : String}
def isI : D → Bool
  | .int _ => true
  | _ => false
def numD : D → Bool
  | .int i => decide (0 ≤ i)
  | _ => false
def ixD (n : Int) : D → Bool
  | .int i => decide (0 ≤ i) && decide (i < n)
  | _ => false
theorem integer_ok (h : tagD st d = some t) : F_is_integer [d] st = .ok (.bl (isI d)) st := by
  refine fn_rt [some d] rfl rfl ?_ (gcD_same rfl)
  unfold b_is_integer
  have h1 : fIsi ["int"] d st = .ok (.bl (["int"].any (subB t))) st := by unfold fIsi; rw [h]
  have h2 : fIsi ["bool"] d st = .ok (.bl (["bool"].any (subB t))) st := by unfold fIsi; rw [h]
  rw [x_ret]
  (simp only [bind_exc, toS_exc, seq_exc, seq_rt, x_var, x_c, x_bin, x_un, x_fn, x_bm, x_tst, x_notT, x_andT, x_orT, x_if, x_not, x_and, x_or, x_nil, x_cons, x_star, x_tup, x_lst, x_call, x_sl, x_oN, x_oS, x_lrg, x_trg, x_iseq, x_enum, x_zip, x_yes, x_mk, x_mt, x_fld, x_snil, x_set, x_ret, x_sif, x_drop, x_raise, x_asg, x_par, x_asgH, x_hsub, x_sfld, bind_ok, toS_ok, seq_nx, opt_ok, sel_0, sel_1, sel_2, sel_3, sel_nil, mkL_f, mkL_t, f_int, f_add, f_eqI, f_neI, f_abs, f_i1, f_max2, f_min2, f_neg, List.getElem?_cons_succ, List.getElem?_cons_zero, List.set_cons_succ, List.set_cons_zero, List.length_cons, List.length_nil, List.cons_append, List.nil_append, List.map_cons, List.map_nil, List.zip_cons_cons, List.zip_nil_left, List.zip_nil_right, List.foldl_cons, List.foldl_nil, szl, ite_true, ite_false, Nat.zero_add, Nat.reduceAdd, Nat.reduceSub, ↓reduceIte, and_self, and_true, true_and, Bool.not_true, Bool.not_false, Bool.not_not, Bool.false_eq_true, reduceCtorEq, gN, gT, gsNil, gsCons, hName, hTup, hsNil, hsCons, Option.bind_some, Option.map_some, partO, seqv_tup, seqv_fl, decide_true, decide_false, Nat.reduceLeDiff, h1, h2]; try rfl)
  cases d with
  | ref n =>
    unfold tagD at h
    cases q : st[n]? with
    | none => simp only [q] at h; cases h
    | some o =>
      simp only [q] at h
      cases o <;> cases h <;> rfl
  | glob _ => cases h
  | _ => cases h; rfl
theorem number_ok (h : tagD st d = some t) : F_is_number [d] st = .ok (.bl (numD d)) st := by
  refine fn_rt [some d] rfl rfl ?_ (gcD_same rfl)
  unfold b_is_number
  rw [x_ret]
  (simp only [bind_exc, toS_exc, seq_exc, seq_rt, x_var, x_c, x_bin, x_un, x_fn, x_bm, x_tst, x_notT, x_andT, x_orT, x_if, x_not, x_and, x_or, x_nil, x_cons, x_star, x_tup, x_lst, x_call, x_sl, x_oN, x_oS, x_lrg, x_trg, x_iseq, x_enum, x_zip, x_yes, x_mk, x_mt, x_fld, x_snil, x_set, x_ret, x_sif, x_drop, x_raise, x_asg, x_par, x_asgH, x_hsub, x_sfld, bind_ok, toS_ok, seq_nx, opt_ok, sel_0, sel_1, sel_2, sel_3, sel_nil, mkL_f, mkL_t, f_int, f_add, f_eqI, f_neI, f_abs, f_i1, f_max2, f_min2, f_neg, List.getElem?_cons_succ, List.getElem?_cons_zero, List.set_cons_succ, List.set_cons_zero, List.length_cons, List.length_nil, List.cons_append, List.nil_append, List.map_cons, List.map_nil, List.zip_cons_cons, List.zip_nil_left, List.zip_nil_right, List.foldl_cons, List.foldl_nil, szl, ite_true, ite_false, Nat.zero_add, Nat.reduceAdd, Nat.reduceSub, ↓reduceIte, and_self, and_true, true_and, Bool.not_true, Bool.not_false, Bool.not_not, Bool.false_eq_true, reduceCtorEq, gN, gT, gsNil, gsCons, hName, hTup, hsNil, hsCons, Option.bind_some, Option.map_some, partO, seqv_tup, seqv_fl, decide_true, decide_false, Nat.reduceLeDiff, integer_ok h]; try rfl)
  cases d <;> rfl
theorem index_ok {n : Int} (h : tagD st d = some t) : F_is_index [d, .int n] st = .ok (.bl (ixD n d)) st := by
  refine fn_rt [some d, some (.int n)] rfl rfl ?_ (gcD_same rfl)
  unfold b_is_index
  rw [x_ret]
  (simp only [bind_exc, toS_exc, seq_exc, seq_rt, x_var, x_c, x_bin, x_un, x_fn, x_bm, x_tst, x_notT, x_andT, x_orT, x_if, x_not, x_and, x_or, x_nil, x_cons, x_star, x_tup, x_lst, x_call, x_sl, x_oN, x_oS, x_lrg, x_trg, x_iseq, x_enum, x_zip, x_yes, x_mk, x_mt, x_fld, x_snil, x_set, x_ret, x_sif, x_drop, x_raise, x_asg, x_par, x_asgH, x_hsub, x_sfld, bind_ok, toS_ok, seq_nx, opt_ok, sel_0, sel_1, sel_2, sel_3, sel_nil, mkL_f, mkL_t, f_int, f_add, f_eqI, f_neI, f_abs, f_i1, f_max2, f_min2, f_neg, List.getElem?_cons_succ, List.getElem?_cons_zero, List.set_cons_succ, List.set_cons_zero, List.length_cons, List.length_nil, List.cons_append, List.nil_append, List.map_cons, List.map_nil, List.zip_cons_cons, List.zip_nil_left, List.zip_nil_right, List.foldl_cons, List.foldl_nil, szl, ite_true, ite_false, Nat.zero_add, Nat.reduceAdd, Nat.reduceSub, ↓reduceIte, and_self, and_true, true_and, Bool.not_true, Bool.not_false, Bool.not_not, Bool.false_eq_true, reduceCtorEq, gN, gT, gsNil, gsCons, hName, hTup, hsNil, hsCons, Option.bind_some, Option.map_some, partO, seqv_tup, seqv_fl, decide_true, decide_false, Nat.reduceLeDiff, number_ok h]; try rfl)
  cases d with
  | int i =>
    by_cases q : 0 ≤ i
    · (simp only [bind_exc, toS_exc, seq_exc, seq_rt, x_var, x_c, x_bin, x_un, x_fn, x_bm, x_tst, x_notT, x_andT, x_orT, x_if, x_not, x_and, x_or, x_nil, x_cons, x_star, x_tup, x_lst, x_call, x_sl, x_oN, x_oS, x_lrg, x_trg, x_iseq, x_enum, x_zip, x_yes, x_mk, x_mt, x_fld, x_snil, x_set, x_ret, x_sif, x_drop, x_raise, x_asg, x_par, x_asgH, x_hsub, x_sfld, bind_ok, toS_ok, seq_nx, opt_ok, sel_0, sel_1, sel_2, sel_3, sel_nil, mkL_f, mkL_t, f_int, f_add, f_eqI, f_neI, f_abs, f_i1, f_max2, f_min2, f_neg, List.getElem?_cons_succ, List.getElem?_cons_zero, List.set_cons_succ, List.set_cons_zero, List.length_cons, List.length_nil, List.cons_append, List.nil_append, List.map_cons, List.map_nil, List.zip_cons_cons, List.zip_nil_left, List.zip_nil_right, List.foldl_cons, List.foldl_nil, szl, ite_true, ite_false, Nat.zero_add, Nat.reduceAdd, Nat.reduceSub, ↓reduceIte, and_self, and_true, true_and, Bool.not_true, Bool.not_false, Bool.not_not, Bool.false_eq_true, reduceCtorEq, gN, gT, gsNil, gsCons, hName, hTup, hsNil, hsCons, Option.bind_some, Option.map_some, partO, seqv_tup, seqv_fl, decide_true, decide_false, Nat.reduceLeDiff, numD, ixD, decide_eq_true q, Bool.true_and]; try rfl)
    · (simp only [bind_exc, toS_exc, seq_exc, seq_rt, x_var, x_c, x_bin, x_un, x_fn, x_bm, x_tst, x_notT, x_andT, x_orT, x_if, x_not, x_and, x_or, x_nil, x_cons, x_star, x_tup, x_lst, x_call, x_sl, x_oN, x_oS, x_lrg, x_trg, x_iseq, x_enum, x_zip, x_yes, x_mk, x_mt, x_fld, x_snil, x_set, x_ret, x_sif, x_drop, x_raise, x_asg, x_par, x_asgH, x_hsub, x_sfld, bind_ok, toS_ok, seq_nx, opt_ok, sel_0, sel_1, sel_2, sel_3, sel_nil, mkL_f, mkL_t, f_int, f_add, f_eqI, f_neI, f_abs, f_i1, f_max2, f_min2, f_neg, List.getElem?_cons_succ, List.getElem?_cons_zero, List.set_cons_succ, List.set_cons_zero, List.length_cons, List.length_nil, List.cons_append, List.nil_append, List.map_cons, List.map_nil, List.zip_cons_cons, List.zip_nil_left, List.zip_nil_right, List.foldl_cons, List.foldl_nil, szl, ite_true, ite_false, Nat.zero_add, Nat.reduceAdd, Nat.reduceSub, ↓reduceIte, and_self, and_true, true_and, Bool.not_true, Bool.not_false, Bool.not_not, Bool.false_eq_true, reduceCtorEq, gN, gT, gsNil, gsCons, hName, hTup, hsNil, hsCons, Option.bind_some, Option.map_some, partO, seqv_tup, seqv_fl, decide_true, decide_false, Nat.reduceLeDiff, numD, ixD, decide_eq_false q, Bool.false_and]; try rfl)
  | _ => rfl

def seqT (t : String) : Bool := ["list", "tuple"].any (subB t)
theorem sequence_ok (h : tagD st d = some t) : F_is_sequence [d] st = .ok (.bl (["list", "tuple"].any (subB t))) st := by
  refine fn_rt [some d] rfl rfl ?_ (gcD_same rfl)
  unfold b_is_sequence
  rw [x_ret]
  have h1 : fIsi ["list", "tuple"] d st = .ok (.bl (["list", "tuple"].any (subB t))) st := by unfold fIsi; rw [h]
  (simp only [bind_exc, toS_exc, seq_exc, seq_rt, x_var, x_c, x_bin, x_un, x_fn, x_bm, x_tst, x_notT, x_andT, x_orT, x_if, x_not, x_and, x_or, x_nil, x_cons, x_star, x_tup, x_lst, x_call, x_sl, x_oN, x_oS, x_lrg, x_trg, x_iseq, x_enum, x_zip, x_yes, x_mk, x_mt, x_fld, x_snil, x_set, x_ret, x_sif, x_drop, x_raise, x_asg, x_par, x_asgH, x_hsub, x_sfld, bind_ok, toS_ok, seq_nx, opt_ok, sel_0, sel_1, sel_2, sel_3, sel_nil, mkL_f, mkL_t, f_int, f_add, f_eqI, f_neI, f_abs, f_i1, f_max2, f_min2, f_neg, List.getElem?_cons_succ, List.getElem?_cons_zero, List.set_cons_succ, List.set_cons_zero, List.length_cons, List.length_nil, List.cons_append, List.nil_append, List.map_cons, List.map_nil, List.zip_cons_cons, List.zip_nil_left, List.zip_nil_right, List.foldl_cons, List.foldl_nil, szl, ite_true, ite_false, Nat.zero_add, Nat.reduceAdd, Nat.reduceSub, ↓reduceIte, and_self, and_true, true_and, Bool.not_true, Bool.not_false, Bool.not_not, Bool.false_eq_true, reduceCtorEq, gN, gT, gsNil, gsCons, hName, hTup, hsNil, hsCons, Option.bind_some, Option.map_some, partO, seqv_tup, seqv_fl, decide_true, decide_false, Nat.reduceLeDiff, h1]; try rfl)
theorem sequence_list (h : tagD st d = some "list") : F_is_sequence [d] st = .ok (.bl true) st := sequence_ok h
theorem sequence_tup {xs : List D} : F_is_sequence [.tup xs] st = .ok (.bl true) st := sequence_ok (t := "tuple") rfl
/-- a machine of the program -/
def machO (c : Nat) (ss : List (List Int)) (k : Nat) : MO := .ins "Machine" [("commands", .int c), ("states", .int (ss.length : Nat)), ("steps", .tup (ss.map fun r => .tup (r.map .int))), ("_found", .ref k)]
theorem init_ok {c : Nat} {ss : List (List Int)} (hm : Mach c ss) (hc : c < 2 ^ 18) (hs : ss.length < 2 ^ 18) : F_Machine___init__ [.ref st.length, .int c, .fl (rowsD ss)] (st ++ [.ins "Machine" []]) = .ok .non (st ++ [machO c ss (st.length + 1), .dk []]) := by
  have c0 := hm.c0
  have s0 := hm.ne
  have hg : ∀ (f : Str) (fs : List (Str × D)) (r : Sto) (d : D), (("Machine" : Str), f) ∈ fldT → fs.length < 1000 → setF fldT f (.ref st.length) d (st ++ .ins "Machine" fs :: r) = some (st ++ .ins "Machine" (putD fs f d) :: r) := fun f fs r d h1 h2 => by
    simp only [setF, at0, if_pos (And.intro h1 h2)]
    rw [List.set_append_right _ _ (by omega), Nat.sub_self, List.set_cons_zero]
  have lenr : (rowsD ss).length = ss.length := by unfold rowsD; rw [List.length_map]
  have lens : fLen [.fl (rowsD ss)] (st ++ [.ins "Machine" []]) = .ok (.int ss.length) (st ++ [.ins "Machine" []]) := by rw [len_of (ys := rowsD ss) rfl, lenr]
  have num : F_is_number [.int c] (st ++ [.ins "Machine" []]) = .ok (.bl true) (st ++ [.ins "Machine" []]) := by
    rw [number_ok (t := "int") rfl]; simp only [numD, decide_eq_true (show (0 : Int) ≤ c by omega)]
  have sq : ∀ xs st, F_is_sequence [.fl xs] st = .ok (.bl true) st := fun xs st => sequence_list rfl
  let e0 : En := [some (.ref st.length), some (.int c), some (.fl (rowsD ss)), none, none, none]
  suffices z : ∃ e, b_Machine___init__ e0 (st ++ [.ins "Machine" []]) = .nx e (st ++ [machO c ss (st.length + 1), .dk []]) by
    obtain ⟨e, he⟩ := z
    refine fn_nx e0 rfl rfl he ?_
    have : shut (st ++ [MO.ins "Machine" []]).length (st ++ [machO c ss (st.length + 1), .dk []]) = false := by
      unfold shut
      rw [show st ++ [machO c ss (st.length + 1), .dk []] = (st ++ [machO c ss (st.length + 1)]) ++ [.dk []] by rw [List.append_assoc]; rfl]
      rw [show (st ++ [MO.ins "Machine" []]).length = (st ++ [machO c ss (st.length + 1)]).length by simp, List.take_left, List.all_append]
      simp only [List.all_cons, List.all_nil, machO, noRefO, noRefK, noRef, List.length_append, List.length_singleton, Nat.lt_irrefl, decide_false, Bool.and_false, Bool.false_and]
    unfold gcD
    rw [this, Bool.and_false]
    rfl
  unfold b_Machine___init__
  have q1 : sIf (mOrT (mNotT (mTst (mCall F_is_number 1 0 [0] (aCons (mVar 1) aNil) aNil))) (mTst (mBin (fEq false) (mVar 1) (mC (.int 0))))) (sRaise "InvalidMachine" (mC (.int 0))) sNil e0 (st ++ [.ins "Machine" []]) = .nx e0 (st ++ [.ins "Machine" []]) := by
    (simp only [bind_exc, toS_exc, seq_exc, seq_rt, x_var, x_c, x_bin, x_un, x_fn, x_bm, x_tst, x_notT, x_andT, x_orT, x_if, x_not, x_and, x_or, x_nil, x_cons, x_star, x_tup, x_lst, x_call, x_sl, x_oN, x_oS, x_lrg, x_trg, x_iseq, x_enum, x_zip, x_yes, x_mk, x_mt, x_fld, x_snil, x_set, x_ret, x_sif, x_drop, x_raise, x_asg, x_par, x_asgH, x_hsub, x_sfld, bind_ok, toS_ok, seq_nx, opt_ok, sel_0, sel_1, sel_2, sel_3, sel_nil, mkL_f, mkL_t, f_int, f_add, f_eqI, f_neI, f_abs, f_i1, f_max2, f_min2, f_neg, List.getElem?_cons_succ, List.getElem?_cons_zero, List.set_cons_succ, List.set_cons_zero, List.length_cons, List.length_nil, List.cons_append, List.nil_append, List.map_cons, List.map_nil, List.zip_cons_cons, List.zip_nil_left, List.zip_nil_right, List.foldl_cons, List.foldl_nil, szl, ite_true, ite_false, Nat.zero_add, Nat.reduceAdd, Nat.reduceSub, ↓reduceIte, and_self, and_true, true_and, Bool.not_true, Bool.not_false, Bool.not_not, Bool.false_eq_true, reduceCtorEq, gN, gT, gsNil, gsCons, hName, hTup, hsNil, hsCons, Option.bind_some, Option.map_some, partO, seqv_tup, seqv_fl, decide_true, decide_false, Nat.reduceLeDiff, e0, num, decide_eq_false (show ¬ (c : Int) = 0 by omega)]; try rfl)
  have q2 : sIf (mOrT (mNotT (mTst (mCall F_is_sequence 1 0 [0] (aCons (mVar 2) aNil) aNil))) (mTst (mBin (fEq false) (mFn fLen (aCons (mVar 2) aNil)) (mC (.int 0))))) (sRaise "InvalidMachine" (mC (.int 1))) sNil e0 (st ++ [.ins "Machine" []]) = .nx e0 (st ++ [.ins "Machine" []]) := by
    (simp only [bind_exc, toS_exc, seq_exc, seq_rt, x_var, x_c, x_bin, x_un, x_fn, x_bm, x_tst, x_notT, x_andT, x_orT, x_if, x_not, x_and, x_or, x_nil, x_cons, x_star, x_tup, x_lst, x_call, x_sl, x_oN, x_oS, x_lrg, x_trg, x_iseq, x_enum, x_zip, x_yes, x_mk, x_mt, x_fld, x_snil, x_set, x_ret, x_sif, x_drop, x_raise, x_asg, x_par, x_asgH, x_hsub, x_sfld, bind_ok, toS_ok, seq_nx, opt_ok, sel_0, sel_1, sel_2, sel_3, sel_nil, mkL_f, mkL_t, f_int, f_add, f_eqI, f_neI, f_abs, f_i1, f_max2, f_min2, f_neg, List.getElem?_cons_succ, List.getElem?_cons_zero, List.set_cons_succ, List.set_cons_zero, List.length_cons, List.length_nil, List.cons_append, List.nil_append, List.map_cons, List.map_nil, List.zip_cons_cons, List.zip_nil_left, List.zip_nil_right, List.foldl_cons, List.foldl_nil, szl, ite_true, ite_false, Nat.zero_add, Nat.reduceAdd, Nat.reduceSub, ↓reduceIte, and_self, and_true, true_and, Bool.not_true, Bool.not_false, Bool.not_not, Bool.false_eq_true, reduceCtorEq, gN, gT, gsNil, gsCons, hName, hTup, hsNil, hsCons, Option.bind_some, Option.map_some, partO, seqv_tup, seqv_fl, decide_true, decide_false, Nat.reduceLeDiff, e0, sq, lens, decide_eq_false (show ¬ (ss.length : Int) = 0 by omega)]; try rfl)
  have q3 : ∀ (rs : List (List Int)) (i : Nat) (x y : Option D), (∀ r ∈ rs, r ∈ ss) → ∃ x' y', fRun (gT 2 (gsCons (gN 3) (gsCons (gN 4) gsNil))) (sIf (mOrT (mNotT (mTst (mCall F_is_sequence 1 0 [0] (aCons (mVar 4) aNil) aNil))) (mOrT (mTst (mBin (fEq true) (mFn fLen (aCons (mVar 4) aNil)) (mVar 1))) (mNotT (mTst (mFn fAll (aCons (mComp false (iSeq (mVar 4)) (gN 5) [5] tYesM (mCall F_is_index 2 0 [0, 1] (aCons (mVar 5) (aCons (mFn fLen (aCons (mVar 2) aNil)) aNil)) aNil)) aNil)))))) (sRaise "InvalidMachine" (mBin (fAdd false) (mC (.int 2)) (mVar 3))) sNil) none (enumD i (rowsD rs)) [some (.ref st.length), some (.int c), some (.fl (rowsD ss)), x, y, none] (st ++ [.ins "Machine" []]) = .nx [some (.ref st.length), some (.int c), some (.fl (rowsD ss)), x', y', none] (st ++ [.ins "Machine" []]) := by
    intro rs
    induction rs with
    | nil => exact fun i x y _ => ⟨x, y, fRun_nil⟩
    | cons r rs ih =>
      intro i x y h
      have hr := h r List.mem_cons_self
      obtain ⟨x', y', hx⟩ := ih (i + 1) (some (.int i)) (some (.fl (r.map .int))) (fun q hq => h q (List.mem_cons_of_mem _ hq))
      refine ⟨x', y', ?_⟩
      have e1 : enumD i (rowsD (r :: rs)) = .tup [.int i, .fl (r.map .int)] :: enumD (i + 1) (rowsD rs) := rfl
      rw [e1]
      have lr : fLen [.fl (r.map .int)] (st ++ [.ins "Machine" []]) = .ok (.int c) (st ++ [.ins "Machine" []]) := by rw [len_of (ys := r.map .int) rfl, List.length_map, hm.row r hr]
      have cp := comp_seq (c := mVar 4) (te := mCall F_is_index 2 0 [0, 1] (aCons (mVar 5) (aCons (mFn fLen (aCons (mVar 2) aNil)) aNil)) aNil) (e := [some (.ref st.length), some (.int c), some (.fl (rowsD ss)), some (.int i), some (.fl (r.map .int)), none]) (st := st ++ [.ins "Machine" []]) (v := 5) (xs := r) D.int (fun j => .bl (ixD ss.length (.int j))) rfl rfl (by rw [hm.row r hr]; omega) (fun j hj => by
        (simp only [bind_exc, toS_exc, seq_exc, seq_rt, x_var, x_c, x_bin, x_un, x_fn, x_bm, x_tst, x_notT, x_andT, x_orT, x_if, x_not, x_and, x_or, x_nil, x_cons, x_star, x_tup, x_lst, x_call, x_sl, x_oN, x_oS, x_lrg, x_trg, x_iseq, x_enum, x_zip, x_yes, x_mk, x_mt, x_fld, x_snil, x_set, x_ret, x_sif, x_drop, x_raise, x_asg, x_par, x_asgH, x_hsub, x_sfld, bind_ok, toS_ok, seq_nx, opt_ok, sel_0, sel_1, sel_2, sel_3, sel_nil, mkL_f, mkL_t, f_int, f_add, f_eqI, f_neI, f_abs, f_i1, f_max2, f_min2, f_neg, List.getElem?_cons_succ, List.getElem?_cons_zero, List.set_cons_succ, List.set_cons_zero, List.length_cons, List.length_nil, List.cons_append, List.nil_append, List.map_cons, List.map_nil, List.zip_cons_cons, List.zip_nil_left, List.zip_nil_right, List.foldl_cons, List.foldl_nil, szl, ite_true, ite_false, Nat.zero_add, Nat.reduceAdd, Nat.reduceSub, ↓reduceIte, and_self, and_true, true_and, Bool.not_true, Bool.not_false, Bool.not_not, Bool.false_eq_true, reduceCtorEq, gN, gT, gsNil, gsCons, hName, hTup, hsNil, hsCons, Option.bind_some, Option.map_some, partO, seqv_tup, seqv_fl, decide_true, decide_false, Nat.reduceLeDiff, wipeE, lens, index_ok (st := st ++ [.ins "Machine" []]) (d := .int j) (t := "int") (n := ss.length) rfl]; try rfl))
      have al : fAll [.fl (r.map fun j => .bl (ixD ss.length (.int j)))] (st ++ [.ins "Machine" []]) = .ok (.bl true) (st ++ [.ins "Machine" []]) := by
        have hb : ∀ l : List Int, (∀ j ∈ l, ixD ss.length (.int j) = true) → ∃ bs : List Bool, blsD (l.map fun j => .bl (ixD ss.length (.int j))) = some bs ∧ bs.all id = true := by
          intro l
          induction l with
          | nil => exact fun _ => ⟨[], rfl, rfl⟩
          | cons j l ih =>
            intro hl
            obtain ⟨bs, b1, b2⟩ := ih fun k hk => hl k (List.mem_cons_of_mem _ hk)
            refine ⟨true :: bs, ?_, by rw [List.all_cons, b2]; rfl⟩
            rw [List.map_cons, hl j List.mem_cons_self]
            simp only [blsD, b1, Option.map_some]
        obtain ⟨bs, b1, b2⟩ := hb r fun j hj => by
          have := hm.ok r hr j hj
          simp only [ixD, decide_eq_true this.1, decide_eq_true this.2, Bool.and_self]
        simp only [fAll, lstv, lsts, Option.bind_some, b1, b2]
      have bd : sIf (mOrT (mNotT (mTst (mCall F_is_sequence 1 0 [0] (aCons (mVar 4) aNil) aNil))) (mOrT (mTst (mBin (fEq true) (mFn fLen (aCons (mVar 4) aNil)) (mVar 1))) (mNotT (mTst (mFn fAll (aCons (mComp false (iSeq (mVar 4)) (gN 5) [5] tYesM (mCall F_is_index 2 0 [0, 1] (aCons (mVar 5) (aCons (mFn fLen (aCons (mVar 2) aNil)) aNil)) aNil)) aNil)))))) (sRaise "InvalidMachine" (mBin (fAdd false) (mC (.int 2)) (mVar 3))) sNil [some (.ref st.length), some (.int c), some (.fl (rowsD ss)), some (.int i), some (.fl (r.map .int)), none] (st ++ [.ins "Machine" []]) = .nx [some (.ref st.length), some (.int c), some (.fl (rowsD ss)), some (.int i), some (.fl (r.map .int)), none] (st ++ [.ins "Machine" []]) := by
        (simp only [bind_exc, toS_exc, seq_exc, seq_rt, x_var, x_c, x_bin, x_un, x_fn, x_bm, x_tst, x_notT, x_andT, x_orT, x_if, x_not, x_and, x_or, x_nil, x_cons, x_star, x_tup, x_lst, x_call, x_sl, x_oN, x_oS, x_lrg, x_trg, x_iseq, x_enum, x_zip, x_yes, x_mk, x_mt, x_fld, x_snil, x_set, x_ret, x_sif, x_drop, x_raise, x_asg, x_par, x_asgH, x_hsub, x_sfld, bind_ok, toS_ok, seq_nx, opt_ok, sel_0, sel_1, sel_2, sel_3, sel_nil, mkL_f, mkL_t, f_int, f_add, f_eqI, f_neI, f_abs, f_i1, f_max2, f_min2, f_neg, List.getElem?_cons_succ, List.getElem?_cons_zero, List.set_cons_succ, List.set_cons_zero, List.length_cons, List.length_nil, List.cons_append, List.nil_append, List.map_cons, List.map_nil, List.zip_cons_cons, List.zip_nil_left, List.zip_nil_right, List.foldl_cons, List.foldl_nil, szl, ite_true, ite_false, Nat.zero_add, Nat.reduceAdd, Nat.reduceSub, ↓reduceIte, and_self, and_true, true_and, Bool.not_true, Bool.not_false, Bool.not_not, Bool.false_eq_true, reduceCtorEq, gN, gT, gsNil, gsCons, hName, hTup, hsNil, hsCons, Option.bind_some, Option.map_some, partO, seqv_tup, seqv_fl, decide_true, decide_false, Nat.reduceLeDiff, sq, lr, cp, al, decide_true]; try rfl)
      exact (fRun_nx (gd := none) True.intro rfl bd).trans hx
  obtain ⟨x, y, hx⟩ := q3 ss 0 none none fun _ h => h
  refine ⟨[some (.ref st.length), some (.int c), some (.fl (rowsD ss)), x, y, none], ?_⟩
  rw [x_seq, q1, seq_nx, x_seq, q2, seq_nx, x_seq]
  have q4 : sFor (iEnum (mVar 2)) (gT 2 (gsCons (gN 3) (gsCons (gN 4) gsNil))) (sIf (mOrT (mNotT (mTst (mCall F_is_sequence 1 0 [0] (aCons (mVar 4) aNil) aNil))) (mOrT (mTst (mBin (fEq true) (mFn fLen (aCons (mVar 4) aNil)) (mVar 1))) (mNotT (mTst (mFn fAll (aCons (mComp false (iSeq (mVar 4)) (gN 5) [5] tYesM (mCall F_is_index 2 0 [0, 1] (aCons (mVar 5) (aCons (mFn fLen (aCons (mVar 2) aNil)) aNil)) aNil)) aNil)))))) (sRaise "InvalidMachine" (mBin (fAdd false) (mC (.int 2)) (mVar 3))) sNil) e0 (st ++ [.ins "Machine" []]) = .nx [some (.ref st.length), some (.int c), some (.fl (rowsD ss)), x, y, none] (st ++ [.ins "Machine" []]) := by
    rw [x_for, show iEnum (mVar 2) e0 (st ++ [.ins "Machine" []]) = .ok (enumD 0 (rowsD ss), none) (st ++ [.ins "Machine" []]) from rfl, toS_ok]
    exact hx
  rw [q4, seq_nx]
  have tp := comp_seq (c := mVar 2) (te := mFn fTuple (aCons (mVar 4) aNil)) (e := [some (.ref st.length), some (.int c), some (.fl (rowsD ss)), x, y, none]) (v := 4) (xs := ss) (fun r => .fl (r.map .int)) (fun r => .tup (r.map .int)) (st := st ++ [.ins "Machine" (putD (putD [] "commands" (.int c)) "states" (.int ss.length))]) rfl rfl (by omega) (fun r hr => by
    (simp only [bind_exc, toS_exc, seq_exc, seq_rt, x_var, x_c, x_bin, x_un, x_fn, x_bm, x_tst, x_notT, x_andT, x_orT, x_if, x_not, x_and, x_or, x_nil, x_cons, x_star, x_tup, x_lst, x_call, x_sl, x_oN, x_oS, x_lrg, x_trg, x_iseq, x_enum, x_zip, x_yes, x_mk, x_mt, x_fld, x_snil, x_set, x_ret, x_sif, x_drop, x_raise, x_asg, x_par, x_asgH, x_hsub, x_sfld, bind_ok, toS_ok, seq_nx, opt_ok, sel_0, sel_1, sel_2, sel_3, sel_nil, mkL_f, mkL_t, f_int, f_add, f_eqI, f_neI, f_abs, f_i1, f_max2, f_min2, f_neg, List.getElem?_cons_succ, List.getElem?_cons_zero, List.set_cons_succ, List.set_cons_zero, List.length_cons, List.length_nil, List.cons_append, List.nil_append, List.map_cons, List.map_nil, List.zip_cons_cons, List.zip_nil_left, List.zip_nil_right, List.foldl_cons, List.foldl_nil, szl, ite_true, ite_false, Nat.zero_add, Nat.reduceAdd, Nat.reduceSub, ↓reduceIte, and_self, and_true, true_and, Bool.not_true, Bool.not_false, Bool.not_not, Bool.false_eq_true, reduceCtorEq, gN, gT, gsNil, gsCons, hName, hTup, hsNil, hsCons, Option.bind_some, Option.map_some, partO, seqv_tup, seqv_fl, decide_true, decide_false, Nat.reduceLeDiff, wipeE, tuple_of (x := .fl (r.map .int)) (ys := r.map .int) (st := st ++ [.ins "Machine" (putD (putD [] "commands" (.int c)) "states" (.int ss.length))]) rfl]; try rfl))
  have lens2 : ∀ st : Sto, fLen [.fl (rowsD ss)] st = .ok (.int ss.length) st := fun st => by rw [len_of (ys := rowsD ss) rfl, lenr]
  have m1 : (("Machine" : Str), ("commands" : Str)) ∈ fldT := by decide
  have m2 : (("Machine" : Str), ("states" : Str)) ∈ fldT := by decide
  have m3 : (("Machine" : Str), ("steps" : Str)) ∈ fldT := by decide
  have m4 : (("Machine" : Str), ("_found" : Str)) ∈ fldT := by decide
  have w1 := hg "commands" [] [] (.int c) m1 (by decide)
  have w2 := hg "states" (putD [] "commands" (.int c)) [] (.int ss.length) m2 (by show (1 : Nat) < 1000; decide)
  have w3 := hg "steps" (putD (putD [] "commands" (.int c)) "states" (.int ss.length)) [] (.tup (ss.map fun r => .tup (r.map .int))) m3 (by show (2 : Nat) < 1000; decide)
  have w4 := hg "_found" (putD (putD (putD [] "commands" (.int c)) "states" (.int ss.length)) "steps" (.tup (ss.map fun r => .tup (r.map .int)))) [.dk []] (.ref (st.length + 1)) m4 (by show (3 : Nat) < 1000; decide)
  have t5 := fun st : Sto => tuple_of (st := st) (x := .fl (ss.map fun r => D.tup (r.map .int))) (ys := ss.map fun r => D.tup (r.map .int)) rfl
  (simp only [bind_exc, toS_exc, seq_exc, seq_rt, x_var, x_c, x_bin, x_un, x_fn, x_bm, x_tst, x_notT, x_andT, x_orT, x_if, x_not, x_and, x_or, x_nil, x_cons, x_star, x_tup, x_lst, x_call, x_sl, x_oN, x_oS, x_lrg, x_trg, x_iseq, x_enum, x_zip, x_yes, x_mk, x_mt, x_fld, x_snil, x_set, x_ret, x_sif, x_drop, x_raise, x_asg, x_par, x_asgH, x_hsub, x_sfld, bind_ok, toS_ok, seq_nx, opt_ok, sel_0, sel_1, sel_2, sel_3, sel_nil, mkL_f, mkL_t, f_int, f_add, f_eqI, f_neI, f_abs, f_i1, f_max2, f_min2, f_neg, List.getElem?_cons_succ, List.getElem?_cons_zero, List.set_cons_succ, List.set_cons_zero, List.length_cons, List.length_nil, List.cons_append, List.nil_append, List.map_cons, List.map_nil, List.zip_cons_cons, List.zip_nil_left, List.zip_nil_right, List.foldl_cons, List.foldl_nil, szl, ite_true, ite_false, Nat.zero_add, Nat.reduceAdd, Nat.reduceSub, ↓reduceIte, and_self, and_true, true_and, Bool.not_true, Bool.not_false, Bool.not_not, Bool.false_eq_true, reduceCtorEq, gN, gT, gsNil, gsCons, hName, hTup, hsNil, hsCons, Option.bind_some, Option.map_some, partO, seqv_tup, seqv_fl, decide_true, decide_false, Nat.reduceLeDiff, x_seq, w1, w2, lens2, tp, t5, w3, List.length_append, List.append_assoc, w4]; try rfl)
end
end K03

namespace K03
open PySem L2 Mi
section
variable {st : Sto} {d v : D} {t : String} {c k j : Nat} {ss : List (List Int)}
def slipB (c : Nat) : D → Bool
  | .tup [a, b] => numD a && ixD c b
  | _ => false
def Tg (st : Sto) (d : D) : Prop := ∃ t, tagD st d = some t
/-- what can be looked at as a slip -/
def Lk (st : Sto) (v : D) : Prop := Tg st v ∧ ∀ a b, v = .tup [a, b] → Tg st a ∧ Tg st b
theorem fld_commands (h : st[k]? = some (machO c ss j)) : getF fldT "commands" (.ref k) st = some (.int c) := by
  unfold getF
  simp only [h, machO]
  rw [if_pos (by decide)]
  rfl
theorem tag_isi {ts : List String} (h : tagD st d = some t) : fIsi ts d st = .ok (.bl (ts.any (subB t))) st := by unfold fIsi; rw [h]
theorem slip_ok (h : st[k]? = some (machO c ss j)) (hv : Lk st v) : F_is_slip [.ref k, v] st = .ok (.bl (slipB c v)) st := by
  obtain ⟨⟨t, ht⟩, hp⟩ := hv
  refine fn_rt [some (.ref k), some v] rfl rfl ?_ (gcD_same rfl)
  unfold b_is_slip
  by_cases q : ∃ xs, v = .tup xs
  · obtain ⟨xs, rfl⟩ := q
    have h1 : ∀ st, fIsi ["tuple"] (.tup xs) st = .ok (.bl true) st := fun st => rfl
    by_cases q2 : xs.length = 2
    · obtain ⟨a, b, rfl⟩ : ∃ a b, xs = [a, b] := by
        match xs, q2 with
        | [a, b], _ => exact ⟨a, b, rfl⟩
      obtain ⟨⟨ta, ha⟩, tb, hb⟩ := hp a b rfl
      have l2 : fLen [.tup [a, b]] st = .ok (.int 2) st := len_of (ys := [a, b]) rfl
      have i0 : fIxA (.tup [a, b]) (.int 0) st = .ok a st := ix_nat (i := 0) (ys := [a, b]) rfl rfl
      have i1 : fIxA (.tup [a, b]) (.int 1) st = .ok b st := ix_nat (i := 1) (ys := [a, b]) rfl rfl
      have nn := number_ok ha
      have ii := index_ok (n := c) hb
      cases qa : numD a with
      | true =>
        rw [qa] at nn
        (simp only [bind_exc, toS_exc, seq_exc, seq_rt, x_var, x_c, x_bin, x_un, x_fn, x_bm, x_tst, x_notT, x_andT, x_orT, x_if, x_not, x_and, x_or, x_nil, x_cons, x_star, x_tup, x_lst, x_call, x_sl, x_oN, x_oS, x_lrg, x_trg, x_iseq, x_enum, x_zip, x_yes, x_mk, x_mt, x_fld, x_snil, x_set, x_ret, x_sif, x_drop, x_raise, x_asg, x_par, x_asgH, x_hsub, x_sfld, bind_ok, toS_ok, seq_nx, opt_ok, sel_0, sel_1, sel_2, sel_3, sel_nil, mkL_f, mkL_t, f_int, f_add, f_eqI, f_neI, f_abs, f_i1, f_max2, f_min2, f_neg, List.getElem?_cons_succ, List.getElem?_cons_zero, List.set_cons_succ, List.set_cons_zero, List.length_cons, List.length_nil, List.cons_append, List.nil_append, List.map_cons, List.map_nil, List.zip_cons_cons, List.zip_nil_left, List.zip_nil_right, List.foldl_cons, List.foldl_nil, szl, ite_true, ite_false, Nat.zero_add, Nat.reduceAdd, Nat.reduceSub, ↓reduceIte, and_self, and_true, true_and, Bool.not_true, Bool.not_false, Bool.not_not, Bool.false_eq_true, reduceCtorEq, gN, gT, gsNil, gsCons, hName, hTup, hsNil, hsCons, Option.bind_some, Option.map_some, partO, seqv_tup, seqv_fl, decide_true, decide_false, Nat.reduceLeDiff, x_seq, h1, l2, i0, i1, nn, ii, fld_commands h, slipB, qa, Bool.true_and, decide_true]; try rfl)
      | false =>
        rw [qa] at nn
        (simp only [bind_exc, toS_exc, seq_exc, seq_rt, x_var, x_c, x_bin, x_un, x_fn, x_bm, x_tst, x_notT, x_andT, x_orT, x_if, x_not, x_and, x_or, x_nil, x_cons, x_star, x_tup, x_lst, x_call, x_sl, x_oN, x_oS, x_lrg, x_trg, x_iseq, x_enum, x_zip, x_yes, x_mk, x_mt, x_fld, x_snil, x_set, x_ret, x_sif, x_drop, x_raise, x_asg, x_par, x_asgH, x_hsub, x_sfld, bind_ok, toS_ok, seq_nx, opt_ok, sel_0, sel_1, sel_2, sel_3, sel_nil, mkL_f, mkL_t, f_int, f_add, f_eqI, f_neI, f_abs, f_i1, f_max2, f_min2, f_neg, List.getElem?_cons_succ, List.getElem?_cons_zero, List.set_cons_succ, List.set_cons_zero, List.length_cons, List.length_nil, List.cons_append, List.nil_append, List.map_cons, List.map_nil, List.zip_cons_cons, List.zip_nil_left, List.zip_nil_right, List.foldl_cons, List.foldl_nil, szl, ite_true, ite_false, Nat.zero_add, Nat.reduceAdd, Nat.reduceSub, ↓reduceIte, and_self, and_true, true_and, Bool.not_true, Bool.not_false, Bool.not_not, Bool.false_eq_true, reduceCtorEq, gN, gT, gsNil, gsCons, hName, hTup, hsNil, hsCons, Option.bind_some, Option.map_some, partO, seqv_tup, seqv_fl, decide_true, decide_false, Nat.reduceLeDiff, x_seq, h1, l2, i0, i1, nn, ii, fld_commands h, slipB, qa, Bool.false_and, decide_true]; try rfl)
    · have l2 : fLen [.tup xs] st = .ok (.int xs.length) st := len_of (ys := xs) rfl
      have : slipB c (.tup xs) = false := by
        unfold slipB
        split
        · rename_i e; cases e; exact absurd rfl q2
        · rfl
      (simp only [bind_exc, toS_exc, seq_exc, seq_rt, x_var, x_c, x_bin, x_un, x_fn, x_bm, x_tst, x_notT, x_andT, x_orT, x_if, x_not, x_and, x_or, x_nil, x_cons, x_star, x_tup, x_lst, x_call, x_sl, x_oN, x_oS, x_lrg, x_trg, x_iseq, x_enum, x_zip, x_yes, x_mk, x_mt, x_fld, x_snil, x_set, x_ret, x_sif, x_drop, x_raise, x_asg, x_par, x_asgH, x_hsub, x_sfld, bind_ok, toS_ok, seq_nx, opt_ok, sel_0, sel_1, sel_2, sel_3, sel_nil, mkL_f, mkL_t, f_int, f_add, f_eqI, f_neI, f_abs, f_i1, f_max2, f_min2, f_neg, List.getElem?_cons_succ, List.getElem?_cons_zero, List.set_cons_succ, List.set_cons_zero, List.length_cons, List.length_nil, List.cons_append, List.nil_append, List.map_cons, List.map_nil, List.zip_cons_cons, List.zip_nil_left, List.zip_nil_right, List.foldl_cons, List.foldl_nil, szl, ite_true, ite_false, Nat.zero_add, Nat.reduceAdd, Nat.reduceSub, ↓reduceIte, and_self, and_true, true_and, Bool.not_true, Bool.not_false, Bool.not_not, Bool.false_eq_true, reduceCtorEq, gN, gT, gsNil, gsCons, hName, hTup, hsNil, hsCons, Option.bind_some, Option.map_some, partO, seqv_tup, seqv_fl, decide_true, decide_false, Nat.reduceLeDiff, x_seq, h1, l2, decide_eq_false (show ¬ (xs.length : Int) = 2 by omega), this]; try rfl)
  · have : slipB c v = false := by
      unfold slipB
      split
      · exact absurd ⟨_, rfl⟩ q
      · rfl
    have h1 : fIsi ["tuple"] v st = .ok (.bl false) st := by
      rw [tag_isi ht]
      have : ["tuple"].any (subB t) = false := by
        cases v with
        | tup xs => exact absurd ⟨_, rfl⟩ q
        | ref n =>
          unfold tagD at ht
          cases q : st[n]? with
          | none => simp only [q] at ht; cases ht
          | some o =>
            simp only [q] at ht
            cases o <;> cases ht <;> rfl
        | glob _ => cases ht
        | _ => cases ht; rfl
      rw [this]
    (simp only [bind_exc, toS_exc, seq_exc, seq_rt, x_var, x_c, x_bin, x_un, x_fn, x_bm, x_tst, x_notT, x_andT, x_orT, x_if, x_not, x_and, x_or, x_nil, x_cons, x_star, x_tup, x_lst, x_call, x_sl, x_oN, x_oS, x_lrg, x_trg, x_iseq, x_enum, x_zip, x_yes, x_mk, x_mt, x_fld, x_snil, x_set, x_ret, x_sif, x_drop, x_raise, x_asg, x_par, x_asgH, x_hsub, x_sfld, bind_ok, toS_ok, seq_nx, opt_ok, sel_0, sel_1, sel_2, sel_3, sel_nil, mkL_f, mkL_t, f_int, f_add, f_eqI, f_neI, f_abs, f_i1, f_max2, f_min2, f_neg, List.getElem?_cons_succ, List.getElem?_cons_zero, List.set_cons_succ, List.set_cons_zero, List.length_cons, List.length_nil, List.cons_append, List.nil_append, List.map_cons, List.map_nil, List.zip_cons_cons, List.zip_nil_left, List.zip_nil_right, List.foldl_cons, List.foldl_nil, szl, ite_true, ite_false, Nat.zero_add, Nat.reduceAdd, Nat.reduceSub, ↓reduceIte, and_self, and_true, true_and, Bool.not_true, Bool.not_false, Bool.not_not, Bool.false_eq_true, reduceCtorEq, gN, gT, gsNil, gsCons, hName, hTup, hsNil, hsCons, Option.bind_some, Option.map_some, partO, seqv_tup, seqv_fl, decide_true, decide_false, Nat.reduceLeDiff, x_seq, h1, this]; try rfl)
theorem cslip_ok (h : st[k]? = some (machO c ss j)) (hv : Lk st v) (hb : slipB c v = true) : F_checked_slip [.ref k, v] st = .ok v st := by
  refine fn_rt [some (.ref k), some v] rfl rfl ?_ (gcD_same rfl)
  have := slip_ok h hv
  rw [hb] at this
  unfold b_checked_slip
  (simp only [bind_exc, toS_exc, seq_exc, seq_rt, x_var, x_c, x_bin, x_un, x_fn, x_bm, x_tst, x_notT, x_andT, x_orT, x_if, x_not, x_and, x_or, x_nil, x_cons, x_star, x_tup, x_lst, x_call, x_sl, x_oN, x_oS, x_lrg, x_trg, x_iseq, x_enum, x_zip, x_yes, x_mk, x_mt, x_fld, x_snil, x_set, x_ret, x_sif, x_drop, x_raise, x_asg, x_par, x_asgH, x_hsub, x_sfld, bind_ok, toS_ok, seq_nx, opt_ok, sel_0, sel_1, sel_2, sel_3, sel_nil, mkL_f, mkL_t, f_int, f_add, f_eqI, f_neI, f_abs, f_i1, f_max2, f_min2, f_neg, List.getElem?_cons_succ, List.getElem?_cons_zero, List.set_cons_succ, List.set_cons_zero, List.length_cons, List.length_nil, List.cons_append, List.nil_append, List.map_cons, List.map_nil, List.zip_cons_cons, List.zip_nil_left, List.zip_nil_right, List.foldl_cons, List.foldl_nil, szl, ite_true, ite_false, Nat.zero_add, Nat.reduceAdd, Nat.reduceSub, ↓reduceIte, and_self, and_true, true_and, Bool.not_true, Bool.not_false, Bool.not_not, Bool.false_eq_true, reduceCtorEq, gN, gT, gsNil, gsCons, hName, hTup, hsNil, hsCons, Option.bind_some, Option.map_some, partO, seqv_tup, seqv_fl, decide_true, decide_false, Nat.reduceLeDiff, x_seq, this]; try rfl)
theorem cslip_bad (h : st[k]? = some (machO c ss j)) (hv : Lk st v) (hb : slipB c v = false) : F_checked_slip [.ref k, v] st = .exc "InvalidSlip" (some (.int 0)) st := by
  refine fn_exc (e := [some (.ref k), some v]) (st' := st) [some (.ref k), some v] rfl rfl ?_ (gcX_same rfl)
  have := slip_ok h hv
  rw [hb] at this
  unfold b_checked_slip
  (simp only [bind_exc, toS_exc, seq_exc, seq_rt, x_var, x_c, x_bin, x_un, x_fn, x_bm, x_tst, x_notT, x_andT, x_orT, x_if, x_not, x_and, x_or, x_nil, x_cons, x_star, x_tup, x_lst, x_call, x_sl, x_oN, x_oS, x_lrg, x_trg, x_iseq, x_enum, x_zip, x_yes, x_mk, x_mt, x_fld, x_snil, x_set, x_ret, x_sif, x_drop, x_raise, x_asg, x_par, x_asgH, x_hsub, x_sfld, bind_ok, toS_ok, seq_nx, opt_ok, sel_0, sel_1, sel_2, sel_3, sel_nil, mkL_f, mkL_t, f_int, f_add, f_eqI, f_neI, f_abs, f_i1, f_max2, f_min2, f_neg, List.getElem?_cons_succ, List.getElem?_cons_zero, List.set_cons_succ, List.set_cons_zero, List.length_cons, List.length_nil, List.cons_append, List.nil_append, List.map_cons, List.map_nil, List.zip_cons_cons, List.zip_nil_left, List.zip_nil_right, List.foldl_cons, List.foldl_nil, szl, ite_true, ite_false, Nat.zero_add, Nat.reduceAdd, Nat.reduceSub, ↓reduceIte, and_self, and_true, true_and, Bool.not_true, Bool.not_false, Bool.not_not, Bool.false_eq_true, reduceCtorEq, gN, gT, gsNil, gsCons, hName, hTup, hsNil, hsCons, Option.bind_some, Option.map_some, partO, seqv_tup, seqv_fl, decide_true, decide_false, Nat.reduceLeDiff, x_seq, this]; try rfl)
theorem slipB_slip {p : Int × Int} (h : 0 ≤ p.1 ∧ 0 ≤ p.2 ∧ p.2 < c) : slipB c (slipD p) = true := by
  simp only [slipB, slipD, numD, ixD, decide_eq_true h.1, decide_eq_true h.2.1, decide_eq_true h.2.2, Bool.and_self]
theorem lk_slip {p : Int × Int} : Lk st (slipD p) := ⟨⟨"tuple", rfl⟩, fun a b e => by
  cases e
  exact ⟨⟨"int", rfl⟩, "int", rfl⟩⟩

noncomputable def hbody : SM := (sSeq (sIf (mOrT (mNotT (mTst (mCall F_is_slip 2 0 [0, 1] (aCons (mVar 0) (aCons (mVar 4) aNil)) aNil))) (mTst (mBin (fInA false) (mBin fIxA (mVar 4) (mC (.int 0))) (mVar 2)))) (sRaise "InvalidSlip" (mVar 3)) sNil)
    (sAsgH (hSubA (mVar 2) (mBin fIxA (mVar 4) (mC (.int 0)))) (mC (.bl true))))
noncomputable def hgoal : D → En → Option En := gT 2 (gsCons (gN 3) (gsCons (gN 4) gsNil))
theorem mach_app {o : MO} (h : st[k]? = some (machO c ss j)) : (st ++ [o])[k]? = some (machO c ss j) := by
  rw [List.getElem?_append_left (List.getElem?_eq_some_iff.mp h).1]; exact h
/-- the walk over slips that are all right -/
theorem hwalk {x : D} {gd : Grd} (h : st[k]? = some (machO c ss j)) (hg : ∀ o, grdOk gd (st ++ [o])) : ∀ (pre : List (Int × Int)) (tl : List D) (i : Nat) (ts : List Int) (y z : Option D), (∀ p ∈ pre, 0 ≤ p.1 ∧ 0 ≤ p.2 ∧ p.2 < c) → (ts ++ pre.map (·.1)).Nodup → ts.length + pre.length < sizeLine →
    ∃ y' z', fRun hgoal hbody gd (enumD i (pre.map slipD ++ tl)) [some (.ref k), some x, some (.ref st.length), y, z] (st ++ [seenO ts]) = fRun hgoal hbody gd (enumD (i + pre.length) tl) [some (.ref k), some x, some (.ref st.length), y', z'] (st ++ [seenO (ts ++ pre.map (·.1))])
  | [], tl, i, ts, y, z, _, _, _ => ⟨y, z, by simp⟩
  | p :: pre, tl, i, ts, y, z, hp, hn, hl => by
    have hp0 := hp p List.mem_cons_self
    have hnt : p.1 ∉ ts := fun hm => by
      rw [List.map_cons, List.nodup_append] at hn
      exact hn.2.2 _ hm _ List.mem_cons_self rfl
    have hn' : ((ts ++ [p.1]) ++ pre.map (·.1)).Nodup := by
      rw [List.append_assoc]; exact hn
    rw [List.length_cons] at hl
    obtain ⟨y', z', hx⟩ := hwalk h hg pre tl (i + 1) (ts ++ [p.1]) (some (.int i)) (some (slipD p)) (fun q hq => hp q (List.mem_cons_of_mem _ hq)) hn' (by rw [List.length_append, List.length_singleton]; omega)
    refine ⟨y', z', ?_⟩
    have e1 : enumD i ((p :: pre).map slipD ++ tl) = .tup [.int i, slipD p] :: enumD (i + 1) (pre.map slipD ++ tl) := rfl
    have bd : hbody [some (.ref k), some x, some (.ref st.length), some (.int i), some (slipD p)] (st ++ [seenO ts]) = .nx [some (.ref k), some x, some (.ref st.length), some (.int i), some (slipD p)] (st ++ [seenO (ts ++ [p.1])]) := by
      have h1 := slip_ok (v := slipD p) (mach_app (o := seenO ts) h) lk_slip
      rw [slipB_slip hp0] at h1
      have i0 : ∀ st, fIxA (slipD p) (.int 0) st = .ok (.int p.1) st := fun st => ix_nat (i := 0) (ys := [.int p.1, .int p.2]) rfl rfl
      unfold hbody
      (simp only [bind_exc, toS_exc, seq_exc, seq_rt, x_var, x_c, x_bin, x_un, x_fn, x_bm, x_tst, x_notT, x_andT, x_orT, x_if, x_not, x_and, x_or, x_nil, x_cons, x_star, x_tup, x_lst, x_call, x_sl, x_oN, x_oS, x_lrg, x_trg, x_iseq, x_enum, x_zip, x_yes, x_mk, x_mt, x_fld, x_snil, x_set, x_ret, x_sif, x_drop, x_raise, x_asg, x_par, x_asgH, x_hsub, x_sfld, bind_ok, toS_ok, seq_nx, opt_ok, sel_0, sel_1, sel_2, sel_3, sel_nil, mkL_f, mkL_t, f_int, f_add, f_eqI, f_neI, f_abs, f_i1, f_max2, f_min2, f_neg, List.getElem?_cons_succ, List.getElem?_cons_zero, List.set_cons_succ, List.set_cons_zero, List.length_cons, List.length_nil, List.cons_append, List.nil_append, List.map_cons, List.map_nil, List.zip_cons_cons, List.zip_nil_left, List.zip_nil_right, List.foldl_cons, List.foldl_nil, szl, ite_true, ite_false, Nat.zero_add, Nat.reduceAdd, Nat.reduceSub, ↓reduceIte, and_self, and_true, true_and, Bool.not_true, Bool.not_false, Bool.not_not, Bool.false_eq_true, reduceCtorEq, gN, gT, gsNil, gsCons, hName, hTup, hsNil, hsCons, Option.bind_some, Option.map_some, partO, seqv_tup, seqv_fl, decide_true, decide_false, Nat.reduceLeDiff, x_seq, h1, i0, seen_in, decide_eq_false hnt, seen_put hnt (by omega)]; try rfl)
    rw [e1, (fRun_nx (hg _) rfl bd).trans hx, List.length_cons, List.map_cons, List.append_assoc]
    have : i + 1 + pre.length = i + (pre.length + 1) := by omega
    rw [this]
    rfl
theorem walk_of {x : D} {ys : List D} (hx : seqv st x = some ys) : ∃ g, ∀ o : MO, walkD x (st ++ [o]) = .ok (ys, g) (st ++ [o]) ∧ grdOk g (st ++ [o]) := by
  cases x with
  | tup ys => cases hx; exact ⟨none, fun o => ⟨rfl, trivial⟩⟩
  | fl ys => cases hx; exact ⟨none, fun o => ⟨rfl, trivial⟩⟩
  | rl ys => cases hx; exact ⟨none, fun o => ⟨rfl, trivial⟩⟩
  | ref n =>
    unfold seqv lstv lsts at hx
    cases q : st[n]? with
    | none => simp only [q] at hx; cases hx
    | some o =>
      simp only [q] at hx
      cases o with
      | lst zs =>
        cases hx
        refine ⟨some (n, ys), fun o => ?_⟩
        have q2 : (st ++ [o])[n]? = some (.lst ys) := by
          rw [List.getElem?_append_left (List.getElem?_eq_some_iff.mp q).1]; exact q
        refine ⟨?_, q2⟩
        unfold walkD
        simp only [q2]
      | _ => cases hx
  | _ => cases hx
theorem seqv_app {x : D} {ys : List D} {o : MO} (hx : seqv st x = some ys) : seqv (st ++ [o]) x = some ys := by
  cases x with
  | ref n =>
    unfold seqv lstv lsts at hx ⊢
    cases q : st[n]? with
    | none => simp only [q] at hx; cases hx
    | some o' =>
      have q2 : (st ++ [o])[n]? = some o' := by
        rw [List.getElem?_append_left (List.getElem?_eq_some_iff.mp q).1]; exact q
      simp only [q] at hx
      simp only [q2]
      exact hx
  | _ => exact hx
theorem seq_is {x : D} {ys : List D} (hx : seqv st x = some ys) : F_is_sequence [x] st = .ok (.bl true) st := by
  cases x with
  | tup zs => exact sequence_tup
  | fl zs => exact sequence_list rfl
  | rl zs => exact sequence_list rfl
  | ref n =>
    unfold seqv lstv lsts at hx
    cases q : st[n]? with
    | none => simp only [q] at hx; cases hx
    | some o =>
      simp only [q] at hx
      cases o with
      | lst zs => refine sequence_list ?_; unfold tagD; simp only [q]
      | _ => cases hx
  | _ => cases hx
theorem sorted_slips {x : D} {ys : List D} (hx : seqv st x = some ys) (hp : ∀ y ∈ ys, (prD y).isSome = true) : fSorted false [x] st = .ok (.fl (isS ltPD ys)) st := by
  unfold fSorted
  simp only [hx]
  rw [if_pos (List.all_eq_true.mpr hp)]
  rfl
theorem heap_goes {x : D} {hs : List (Int × Int)} (h : st[k]? = some (machO c ss j)) (hx : seqv st x = some (hs.map slipD)) (ok : ∀ p ∈ hs, 0 ≤ p.1 ∧ 0 ≤ p.2 ∧ p.2 < c) (nd : (hs.map (·.1)).Nodup) (hl : hs.length < sizeLine) (hw : wf st.length st) :
    F_checked_heap [.ref k, x] st = .ok (.tup (isS ltPD (hs.map slipD))) st := by
  obtain ⟨g, hg⟩ := walk_of hx
  obtain ⟨y, z, hy⟩ := hwalk (x := x) (gd := g) h (fun o => (hg o).2) hs [] 0 [] none none ok nd (by rw [List.length_nil]; omega)
  rw [List.append_nil, List.nil_append] at hy
  have hy2 := hy.trans (fRun_end (hg _).2)
  refine fn_rt (d := .tup (isS ltPD (hs.map slipD))) (st' := st ++ [seenO (hs.map (·.1))]) [some (.ref k), some x, none, none, none] rfl rfl ?_ ?_
  · unfold b_checked_heap
    have q1 : sIf (mNotT (mTst (mCall F_is_sequence 1 0 [0] (aCons (mVar 1) aNil) aNil))) (sRaise "InvalidSlip" (mC (.int 0))) sNil [some (.ref k), some x, none, none, none] st = .nx [some (.ref k), some x, none, none, none] st := by
      (simp only [bind_exc, toS_exc, seq_exc, seq_rt, x_var, x_c, x_bin, x_un, x_fn, x_bm, x_tst, x_notT, x_andT, x_orT, x_if, x_not, x_and, x_or, x_nil, x_cons, x_star, x_tup, x_lst, x_call, x_sl, x_oN, x_oS, x_lrg, x_trg, x_iseq, x_enum, x_zip, x_yes, x_mk, x_mt, x_fld, x_snil, x_set, x_ret, x_sif, x_drop, x_raise, x_asg, x_par, x_asgH, x_hsub, x_sfld, bind_ok, toS_ok, seq_nx, opt_ok, sel_0, sel_1, sel_2, sel_3, sel_nil, mkL_f, mkL_t, f_int, f_add, f_eqI, f_neI, f_abs, f_i1, f_max2, f_min2, f_neg, List.getElem?_cons_succ, List.getElem?_cons_zero, List.set_cons_succ, List.set_cons_zero, List.length_cons, List.length_nil, List.cons_append, List.nil_append, List.map_cons, List.map_nil, List.zip_cons_cons, List.zip_nil_left, List.zip_nil_right, List.foldl_cons, List.foldl_nil, szl, ite_true, ite_false, Nat.zero_add, Nat.reduceAdd, Nat.reduceSub, ↓reduceIte, and_self, and_true, true_and, Bool.not_true, Bool.not_false, Bool.not_not, Bool.false_eq_true, reduceCtorEq, gN, gT, gsNil, gsCons, hName, hTup, hsNil, hsCons, Option.bind_some, Option.map_some, partO, seqv_tup, seqv_fl, decide_true, decide_false, Nat.reduceLeDiff, seq_is hx]; try rfl)
    have q2 : sSet 2 mDk [some (.ref k), some x, none, none, none] st = .nx [some (.ref k), some x, some (.ref st.length), none, none] (st ++ [seenO []]) := by
      (simp only [bind_exc, toS_exc, seq_exc, seq_rt, x_var, x_c, x_bin, x_un, x_fn, x_bm, x_tst, x_notT, x_andT, x_orT, x_if, x_not, x_and, x_or, x_nil, x_cons, x_star, x_tup, x_lst, x_call, x_sl, x_oN, x_oS, x_lrg, x_trg, x_iseq, x_enum, x_zip, x_yes, x_mk, x_mt, x_fld, x_snil, x_set, x_ret, x_sif, x_drop, x_raise, x_asg, x_par, x_asgH, x_hsub, x_sfld, bind_ok, toS_ok, seq_nx, opt_ok, sel_0, sel_1, sel_2, sel_3, sel_nil, mkL_f, mkL_t, f_int, f_add, f_eqI, f_neI, f_abs, f_i1, f_max2, f_min2, f_neg, List.getElem?_cons_succ, List.getElem?_cons_zero, List.set_cons_succ, List.set_cons_zero, List.length_cons, List.length_nil, List.cons_append, List.nil_append, List.map_cons, List.map_nil, List.zip_cons_cons, List.zip_nil_left, List.zip_nil_right, List.foldl_cons, List.foldl_nil, szl, ite_true, ite_false, Nat.zero_add, Nat.reduceAdd, Nat.reduceSub, ↓reduceIte, and_self, and_true, true_and, Bool.not_true, Bool.not_false, Bool.not_not, Bool.false_eq_true, reduceCtorEq, gN, gT, gsNil, gsCons, hName, hTup, hsNil, hsCons, Option.bind_some, Option.map_some, partO, seqv_tup, seqv_fl, decide_true, decide_false, Nat.reduceLeDiff]; try rfl)
    have q3 : sFor (iEnum (mVar 1)) (gT 2 (gsCons (gN 3) (gsCons (gN 4) gsNil))) hbody [some (.ref k), some x, some (.ref st.length), none, none] (st ++ [seenO []]) = .nx [some (.ref k), some x, some (.ref st.length), y, z] (st ++ [seenO (hs.map (·.1))]) := by
      rw [x_for, x_enum, x_var]
      simp only [List.getElem?_cons_succ, List.getElem?_cons_zero]
      rw [bind_ok, (hg _).1, bind_ok, toS_ok]
      exact hy2
    rw [x_seq, q1, seq_nx, x_seq, q2, seq_nx, x_seq]
    show (SO.seq (sFor (iEnum (mVar 1)) (gT 2 (gsCons (gN 3) (gsCons (gN 4) gsNil))) hbody [some (.ref k), some x, some (.ref st.length), none, none] (st ++ [seenO []])) _) = _
    rw [q3, seq_nx]
    have t1 := fun st : Sto => tuple_of (st := st) (x := .fl (isS ltPD (hs.map slipD))) (ys := isS ltPD (hs.map slipD)) rfl
    (simp only [bind_exc, toS_exc, seq_exc, seq_rt, x_var, x_c, x_bin, x_un, x_fn, x_bm, x_tst, x_notT, x_andT, x_orT, x_if, x_not, x_and, x_or, x_nil, x_cons, x_star, x_tup, x_lst, x_call, x_sl, x_oN, x_oS, x_lrg, x_trg, x_iseq, x_enum, x_zip, x_yes, x_mk, x_mt, x_fld, x_snil, x_set, x_ret, x_sif, x_drop, x_raise, x_asg, x_par, x_asgH, x_hsub, x_sfld, bind_ok, toS_ok, seq_nx, opt_ok, sel_0, sel_1, sel_2, sel_3, sel_nil, mkL_f, mkL_t, f_int, f_add, f_eqI, f_neI, f_abs, f_i1, f_max2, f_min2, f_neg, List.getElem?_cons_succ, List.getElem?_cons_zero, List.set_cons_succ, List.set_cons_zero, List.length_cons, List.length_nil, List.cons_append, List.nil_append, List.map_cons, List.map_nil, List.zip_cons_cons, List.zip_nil_left, List.zip_nil_right, List.foldl_cons, List.foldl_nil, szl, ite_true, ite_false, Nat.zero_add, Nat.reduceAdd, Nat.reduceSub, ↓reduceIte, and_self, and_true, true_and, Bool.not_true, Bool.not_false, Bool.not_not, Bool.false_eq_true, reduceCtorEq, gN, gT, gsNil, gsCons, hName, hTup, hsNil, hsCons, Option.bind_some, Option.map_some, partO, seqv_tup, seqv_fl, decide_true, decide_false, Nat.reduceLeDiff, sorted_slips (seqv_app (o := seenO (hs.map (·.1))) hx) (fun y hy => by
      obtain ⟨p, _, rfl⟩ := List.mem_map.mp hy
      rfl), t1]; try rfl)
  · refine gcD_cut rfl ?_ hw
    simp only [noRef, noRefs_all]
    refine List.all_eq_true.mpr fun y hy => ?_
    obtain ⟨p, _, rfl⟩ := List.mem_map.mp ((isS_perm _).subset hy)
    exact noRef_slip
/-- .. and the first that is not -/
theorem heap_stops {x b : D} {pre : List (Int × Int)} {tl : List D} (h : st[k]? = some (machO c ss j)) (hx : seqv st x = some (pre.map slipD ++ b :: tl)) (ok : ∀ p ∈ pre, 0 ≤ p.1 ∧ 0 ≤ p.2 ∧ p.2 < c) (nd : (pre.map (·.1)).Nodup) (hl : pre.length < sizeLine) (hw : wf st.length st) (hk : ∀ o, Lk (st ++ [o]) b)
    (hb : slipB c b = false ∨ slipB c b = true ∧ ∃ t q, b = .tup [.int t, q] ∧ t ∈ pre.map (·.1)) :
    F_checked_heap [.ref k, x] st = .exc "InvalidSlip" (some (.int pre.length)) st := by
  obtain ⟨g, hg⟩ := walk_of hx
  obtain ⟨y, z, hy⟩ := hwalk (x := x) (gd := g) h (fun o => (hg o).2) pre (b :: tl) 0 [] none none ok nd (by rw [List.length_nil]; omega)
  rw [Nat.zero_add, List.nil_append] at hy
  have bd : hbody [some (.ref k), some x, some (.ref st.length), some (.int pre.length), some b] (st ++ [seenO (pre.map (·.1))]) = .exc "InvalidSlip" (some (.int pre.length)) [some (.ref k), some x, some (.ref st.length), some (.int pre.length), some b] (st ++ [seenO (pre.map (·.1))]) := by
    have h1 := slip_ok (v := b) (mach_app (o := seenO (pre.map (·.1))) h) (hk _)
    unfold hbody
    rcases hb with hb | ⟨hb, t, q, rfl, hm⟩
    · rw [hb] at h1
      (simp only [bind_exc, toS_exc, seq_exc, seq_rt, x_var, x_c, x_bin, x_un, x_fn, x_bm, x_tst, x_notT, x_andT, x_orT, x_if, x_not, x_and, x_or, x_nil, x_cons, x_star, x_tup, x_lst, x_call, x_sl, x_oN, x_oS, x_lrg, x_trg, x_iseq, x_enum, x_zip, x_yes, x_mk, x_mt, x_fld, x_snil, x_set, x_ret, x_sif, x_drop, x_raise, x_asg, x_par, x_asgH, x_hsub, x_sfld, bind_ok, toS_ok, seq_nx, opt_ok, sel_0, sel_1, sel_2, sel_3, sel_nil, mkL_f, mkL_t, f_int, f_add, f_eqI, f_neI, f_abs, f_i1, f_max2, f_min2, f_neg, List.getElem?_cons_succ, List.getElem?_cons_zero, List.set_cons_succ, List.set_cons_zero, List.length_cons, List.length_nil, List.cons_append, List.nil_append, List.map_cons, List.map_nil, List.zip_cons_cons, List.zip_nil_left, List.zip_nil_right, List.foldl_cons, List.foldl_nil, szl, ite_true, ite_false, Nat.zero_add, Nat.reduceAdd, Nat.reduceSub, ↓reduceIte, and_self, and_true, true_and, Bool.not_true, Bool.not_false, Bool.not_not, Bool.false_eq_true, reduceCtorEq, gN, gT, gsNil, gsCons, hName, hTup, hsNil, hsCons, Option.bind_some, Option.map_some, partO, seqv_tup, seqv_fl, decide_true, decide_false, Nat.reduceLeDiff, x_seq, h1]; try rfl)
    · rw [hb] at h1
      have i0 : ∀ st, fIxA (.tup [.int t, q]) (.int 0) st = .ok (.int t) st := fun st => ix_nat (i := 0) (ys := [.int t, q]) rfl rfl
      (simp only [bind_exc, toS_exc, seq_exc, seq_rt, x_var, x_c, x_bin, x_un, x_fn, x_bm, x_tst, x_notT, x_andT, x_orT, x_if, x_not, x_and, x_or, x_nil, x_cons, x_star, x_tup, x_lst, x_call, x_sl, x_oN, x_oS, x_lrg, x_trg, x_iseq, x_enum, x_zip, x_yes, x_mk, x_mt, x_fld, x_snil, x_set, x_ret, x_sif, x_drop, x_raise, x_asg, x_par, x_asgH, x_hsub, x_sfld, bind_ok, toS_ok, seq_nx, opt_ok, sel_0, sel_1, sel_2, sel_3, sel_nil, mkL_f, mkL_t, f_int, f_add, f_eqI, f_neI, f_abs, f_i1, f_max2, f_min2, f_neg, List.getElem?_cons_succ, List.getElem?_cons_zero, List.set_cons_succ, List.set_cons_zero, List.length_cons, List.length_nil, List.cons_append, List.nil_append, List.map_cons, List.map_nil, List.zip_cons_cons, List.zip_nil_left, List.zip_nil_right, List.foldl_cons, List.foldl_nil, szl, ite_true, ite_false, Nat.zero_add, Nat.reduceAdd, Nat.reduceSub, ↓reduceIte, and_self, and_true, true_and, Bool.not_true, Bool.not_false, Bool.not_not, Bool.false_eq_true, reduceCtorEq, gN, gT, gsNil, gsCons, hName, hTup, hsNil, hsCons, Option.bind_some, Option.map_some, partO, seqv_tup, seqv_fl, decide_true, decide_false, Nat.reduceLeDiff, x_seq, h1, i0, seen_in, decide_eq_true hm]; try rfl)
  refine fn_exc (e := [some (.ref k), some x, some (.ref st.length), some (.int pre.length), some b]) (st' := st ++ [seenO (pre.map (·.1))]) [some (.ref k), some x, none, none, none] rfl rfl ?_ (gcX_cut rfl rfl hw)
  unfold b_checked_heap
  have q1 : sIf (mNotT (mTst (mCall F_is_sequence 1 0 [0] (aCons (mVar 1) aNil) aNil))) (sRaise "InvalidSlip" (mC (.int 0))) sNil [some (.ref k), some x, none, none, none] st = .nx [some (.ref k), some x, none, none, none] st := by
    (simp only [bind_exc, toS_exc, seq_exc, seq_rt, x_var, x_c, x_bin, x_un, x_fn, x_bm, x_tst, x_notT, x_andT, x_orT, x_if, x_not, x_and, x_or, x_nil, x_cons, x_star, x_tup, x_lst, x_call, x_sl, x_oN, x_oS, x_lrg, x_trg, x_iseq, x_enum, x_zip, x_yes, x_mk, x_mt, x_fld, x_snil, x_set, x_ret, x_sif, x_drop, x_raise, x_asg, x_par, x_asgH, x_hsub, x_sfld, bind_ok, toS_ok, seq_nx, opt_ok, sel_0, sel_1, sel_2, sel_3, sel_nil, mkL_f, mkL_t, f_int, f_add, f_eqI, f_neI, f_abs, f_i1, f_max2, f_min2, f_neg, List.getElem?_cons_succ, List.getElem?_cons_zero, List.set_cons_succ, List.set_cons_zero, List.length_cons, List.length_nil, List.cons_append, List.nil_append, List.map_cons, List.map_nil, List.zip_cons_cons, List.zip_nil_left, List.zip_nil_right, List.foldl_cons, List.foldl_nil, szl, ite_true, ite_false, Nat.zero_add, Nat.reduceAdd, Nat.reduceSub, ↓reduceIte, and_self, and_true, true_and, Bool.not_true, Bool.not_false, Bool.not_not, Bool.false_eq_true, reduceCtorEq, gN, gT, gsNil, gsCons, hName, hTup, hsNil, hsCons, Option.bind_some, Option.map_some, partO, seqv_tup, seqv_fl, decide_true, decide_false, Nat.reduceLeDiff, seq_is hx]; try rfl)
  have q2 : sSet 2 mDk [some (.ref k), some x, none, none, none] st = .nx [some (.ref k), some x, some (.ref st.length), none, none] (st ++ [seenO []]) := by
    (simp only [bind_exc, toS_exc, seq_exc, seq_rt, x_var, x_c, x_bin, x_un, x_fn, x_bm, x_tst, x_notT, x_andT, x_orT, x_if, x_not, x_and, x_or, x_nil, x_cons, x_star, x_tup, x_lst, x_call, x_sl, x_oN, x_oS, x_lrg, x_trg, x_iseq, x_enum, x_zip, x_yes, x_mk, x_mt, x_fld, x_snil, x_set, x_ret, x_sif, x_drop, x_raise, x_asg, x_par, x_asgH, x_hsub, x_sfld, bind_ok, toS_ok, seq_nx, opt_ok, sel_0, sel_1, sel_2, sel_3, sel_nil, mkL_f, mkL_t, f_int, f_add, f_eqI, f_neI, f_abs, f_i1, f_max2, f_min2, f_neg, List.getElem?_cons_succ, List.getElem?_cons_zero, List.set_cons_succ, List.set_cons_zero, List.length_cons, List.length_nil, List.cons_append, List.nil_append, List.map_cons, List.map_nil, List.zip_cons_cons, List.zip_nil_left, List.zip_nil_right, List.foldl_cons, List.foldl_nil, szl, ite_true, ite_false, Nat.zero_add, Nat.reduceAdd, Nat.reduceSub, ↓reduceIte, and_self, and_true, true_and, Bool.not_true, Bool.not_false, Bool.not_not, Bool.false_eq_true, reduceCtorEq, gN, gT, gsNil, gsCons, hName, hTup, hsNil, hsCons, Option.bind_some, Option.map_some, partO, seqv_tup, seqv_fl, decide_true, decide_false, Nat.reduceLeDiff]; try rfl)
  have q3 : sFor (iEnum (mVar 1)) (gT 2 (gsCons (gN 3) (gsCons (gN 4) gsNil))) hbody [some (.ref k), some x, some (.ref st.length), none, none] (st ++ [seenO []]) = .exc "InvalidSlip" (some (.int pre.length)) [some (.ref k), some x, some (.ref st.length), some (.int pre.length), some b] (st ++ [seenO (pre.map (·.1))]) := by
    rw [x_for, x_enum, x_var]
    simp only [List.getElem?_cons_succ, List.getElem?_cons_zero]
    rw [bind_ok, (hg _).1, bind_ok, toS_ok]
    exact hy.trans (fRun_exc (hg _).2 rfl bd)
  rw [x_seq, q1, seq_nx, x_seq, q2, seq_nx, x_seq]
  show (SO.seq (sFor (iEnum (mVar 1)) (gT 2 (gsCons (gN 3) (gsCons (gN 4) gsNil))) hbody [some (.ref k), some x, some (.ref st.length), none, none] (st ++ [seenO []])) _) = _
  rw [q3, seq_exc]
/-- no sequence -/
theorem heap_none {x : D} {t : String} (ht : tagD st x = some t) (hn : (["list", "tuple"].any (subB t)) = false) : F_checked_heap [.ref k, x] st = .exc "InvalidSlip" (some (.int 0)) st := by
  refine fn_exc (e := [some (.ref k), some x, none, none, none]) (st' := st) [some (.ref k), some x, none, none, none] rfl rfl ?_ (gcX_same rfl)
  have := sequence_ok ht
  rw [hn] at this
  unfold b_checked_heap
  (simp only [bind_exc, toS_exc, seq_exc, seq_rt, x_var, x_c, x_bin, x_un, x_fn, x_bm, x_tst, x_notT, x_andT, x_orT, x_if, x_not, x_and, x_or, x_nil, x_cons, x_star, x_tup, x_lst, x_call, x_sl, x_oN, x_oS, x_lrg, x_trg, x_iseq, x_enum, x_zip, x_yes, x_mk, x_mt, x_fld, x_snil, x_set, x_ret, x_sif, x_drop, x_raise, x_asg, x_par, x_asgH, x_hsub, x_sfld, bind_ok, toS_ok, seq_nx, opt_ok, sel_0, sel_1, sel_2, sel_3, sel_nil, mkL_f, mkL_t, f_int, f_add, f_eqI, f_neI, f_abs, f_i1, f_max2, f_min2, f_neg, List.getElem?_cons_succ, List.getElem?_cons_zero, List.set_cons_succ, List.set_cons_zero, List.length_cons, List.length_nil, List.cons_append, List.nil_append, List.map_cons, List.map_nil, List.zip_cons_cons, List.zip_nil_left, List.zip_nil_right, List.foldl_cons, List.foldl_nil, szl, ite_true, ite_false, Nat.zero_add, Nat.reduceAdd, Nat.reduceSub, ↓reduceIte, and_self, and_true, true_and, Bool.not_true, Bool.not_false, Bool.not_not, Bool.false_eq_true, reduceCtorEq, gN, gT, gsNil, gsCons, hName, hTup, hsNil, hsCons, Option.bind_some, Option.map_some, partO, seqv_tup, seqv_fl, decide_true, decide_false, Nat.reduceLeDiff, x_seq, this]; try rfl)
end
end K03

namespace K03
open PySem L2 Mi
theorem e_led : F__law_led = Dw.F__law_led := rfl
theorem e_wide : F__law_wide = Dw.F__law_wide := rfl
section
variable {st : Sto} {d v x : D} {t : String} {c k j : Nat} {ss : List (List Int)} {hs ys : List (Int × Int)}
/-- the law's view of a machine and of a heap that is all right -/
structure Hp (st : Sto) (k c : Nat) (x : D) (hs : List (Int × Int)) (ys : List (Int × Int)) : Prop where
  perm : ys.Perm hs
  seq : seqv st x = some (ys.map slipD)
  asc : hs.Pairwise fun p q => p.1 < q.1
  ok : ∀ p ∈ hs, 0 ≤ p.1 ∧ 0 ≤ p.2 ∧ p.2 < c
  len : hs.length < 2 ^ 18
  wf : wf st.length st
theorem asc_nodup (h : hs.Pairwise fun p q => p.1 < q.1) : (hs.map (·.1)).Nodup := List.pairwise_map.mpr (h.imp fun {p q} h => by omega)
theorem chk_ok (h : st[k]? = some (machO c ss j)) (H : Hp st k c x hs ys) : F_checked_heap [.ref k, x] st = .ok (.tup (hs.map slipD)) st := by
  have := heap_goes h H.seq (fun p hp => H.ok p (H.perm.mem_iff.mp hp)) (((H.perm.map _).nodup_iff).mpr (asc_nodup H.asc)) (by rw [H.perm.length_eq, sizeV]; have := H.len; omega) H.wf
  rwa [sort_slips (H.perm.map _) H.asc] at this
theorem i0s {p : Int × Int} {st : Sto} : fIxA (slipD p) (.int 0) st = .ok (.int p.1) st := ix_nat (i := 0) (ys := [.int p.1, .int p.2]) rfl rfl
theorem sl_tup {ys : List D} {lo hi : Option Int} {st : Sto} : fSl false (.tup ys) lo hi st = .ok (.tup (cutD ys lo hi)) st := rfl
theorem fld_states (h : st[k]? = some (machO c ss j)) : getF fldT "states" (.ref k) st = some (.int (ss.length : Nat)) := by
  unfold getF
  simp only [h, machO]
  rw [if_pos (by decide)]
  rfl
theorem fld_steps (h : st[k]? = some (machO c ss j)) : getF fldT "steps" (.ref k) st = some (.tup (ss.map fun r => .tup (r.map .int))) := by
  unfold getF
  simp only [h, machO]
  rw [if_pos (by decide)]
  rfl
/-- the commands of a heap -/
theorem row_of_ok (h : st[k]? = some (machO c ss j)) (H : Hp st k c x hs ys) : F_row_of [.ref k, x] st = .ok (.tup ((hs.map (·.2)).map .int)) st := by
  have h1 := chk_ok h H
  have hl := H.len
  refine fn_rt (d := .tup ((hs.map (·.2)).map .int)) (st' := st) [some (.ref k), some x, none, none] rfl rfl ?_ (gcD_same rfl)
  unfold b_row_of
  have cp := comp_all (c := mCall F_checked_heap 2 0 [0, 1] (aCons (mVar 0) (aCons (mVar 1) aNil)) aNil) (g := gT 2 (gsCons (gN 2) (gsCons (gN 3) gsNil))) (vs := [2, 3]) (te := mVar 3) (e := [some (.ref k), some x, none, none]) (st := st) (xs := hs) slipD (fun p => .int p.2) (d := .tup (hs.map slipD)) (by (simp only [bind_exc, toS_exc, seq_exc, seq_rt, x_var, x_c, x_bin, x_un, x_fn, x_bm, x_tst, x_notT, x_andT, x_orT, x_if, x_not, x_and, x_or, x_nil, x_cons, x_star, x_tup, x_lst, x_call, x_sl, x_oN, x_oS, x_lrg, x_trg, x_iseq, x_enum, x_zip, x_yes, x_mk, x_mt, x_fld, x_snil, x_set, x_ret, x_sif, x_drop, x_raise, x_asg, x_par, x_asgH, x_hsub, x_sfld, bind_ok, toS_ok, seq_nx, opt_ok, sel_0, sel_1, sel_2, sel_3, sel_nil, mkL_f, mkL_t, f_int, f_add, f_eqI, f_neI, f_abs, f_i1, f_max2, f_min2, f_neg, List.getElem?_cons_succ, List.getElem?_cons_zero, List.set_cons_succ, List.set_cons_zero, List.length_cons, List.length_nil, List.cons_append, List.nil_append, List.map_cons, List.map_nil, List.zip_cons_cons, List.zip_nil_left, List.zip_nil_right, List.foldl_cons, List.foldl_nil, szl, ite_true, ite_false, Nat.zero_add, Nat.reduceAdd, Nat.reduceSub, ↓reduceIte, and_self, and_true, true_and, Bool.not_true, Bool.not_false, Bool.not_not, Bool.false_eq_true, reduceCtorEq, gN, gT, gsNil, gsCons, hName, hTup, hsNil, hsCons, Option.bind_some, Option.map_some, partO, seqv_tup, seqv_fl, decide_true, decide_false, Nat.reduceLeDiff, h1]; try rfl)) rfl (by omega) (fun p hp => ⟨[some (.ref k), some x, some (.int p.1), some (.int p.2)], rfl, rfl⟩)
  have t1 := tuple_of (st := st) (x := .fl (hs.map fun p => D.int p.2)) (ys := hs.map fun p => D.int p.2) rfl
  (simp only [bind_exc, toS_exc, seq_exc, seq_rt, x_var, x_c, x_bin, x_un, x_fn, x_bm, x_tst, x_notT, x_andT, x_orT, x_if, x_not, x_and, x_or, x_nil, x_cons, x_star, x_tup, x_lst, x_call, x_sl, x_oN, x_oS, x_lrg, x_trg, x_iseq, x_enum, x_zip, x_yes, x_mk, x_mt, x_fld, x_snil, x_set, x_ret, x_sif, x_drop, x_raise, x_asg, x_par, x_asgH, x_hsub, x_sfld, bind_ok, toS_ok, seq_nx, opt_ok, sel_0, sel_1, sel_2, sel_3, sel_nil, mkL_f, mkL_t, f_int, f_add, f_eqI, f_neI, f_abs, f_i1, f_max2, f_min2, f_neg, List.getElem?_cons_succ, List.getElem?_cons_zero, List.set_cons_succ, List.set_cons_zero, List.length_cons, List.length_nil, List.cons_append, List.nil_append, List.map_cons, List.map_nil, List.zip_cons_cons, List.zip_nil_left, List.zip_nil_right, List.foldl_cons, List.foldl_nil, szl, ite_true, ite_false, Nat.zero_add, Nat.reduceAdd, Nat.reduceSub, ↓reduceIte, and_self, and_true, true_and, Bool.not_true, Bool.not_false, Bool.not_not, Bool.false_eq_true, reduceCtorEq, gN, gT, gsNil, gsCons, hName, hTup, hsNil, hsCons, Option.bind_some, Option.map_some, partO, seqv_tup, seqv_fl, decide_true, decide_false, Nat.reduceLeDiff, cp, t1, List.map_map]; try rfl)
theorem row_of_exc {v : Option D} {ex : Str} (h : F_checked_heap [.ref k, x] st = .exc ex v st) (hv : gcX st.length ex v st = .exc ex v st) : F_row_of [.ref k, x] st = .exc ex v st := by
  refine fn_exc (e := [some (.ref k), some x, none, none]) (st' := st) [some (.ref k), some x, none, none] rfl rfl ?_ hv
  unfold b_row_of
  have cp := comp_exc (o := false) (c := mCall F_checked_heap 2 0 [0, 1] (aCons (mVar 0) (aCons (mVar 1) aNil)) aNil) (g := gT 2 (gsCons (gN 2) (gsCons (gN 3) gsNil))) (vs := [2, 3]) (te := mVar 3) (tt := tYesM) (e := [some (.ref k), some x, none, none]) (st := st) (st1 := st) (ex := ex) (v := v) (by (simp only [bind_exc, toS_exc, seq_exc, seq_rt, x_var, x_c, x_bin, x_un, x_fn, x_bm, x_tst, x_notT, x_andT, x_orT, x_if, x_not, x_and, x_or, x_nil, x_cons, x_star, x_tup, x_lst, x_call, x_sl, x_oN, x_oS, x_lrg, x_trg, x_iseq, x_enum, x_zip, x_yes, x_mk, x_mt, x_fld, x_snil, x_set, x_ret, x_sif, x_drop, x_raise, x_asg, x_par, x_asgH, x_hsub, x_sfld, bind_ok, toS_ok, seq_nx, opt_ok, sel_0, sel_1, sel_2, sel_3, sel_nil, mkL_f, mkL_t, f_int, f_add, f_eqI, f_neI, f_abs, f_i1, f_max2, f_min2, f_neg, List.getElem?_cons_succ, List.getElem?_cons_zero, List.set_cons_succ, List.set_cons_zero, List.length_cons, List.length_nil, List.cons_append, List.nil_append, List.map_cons, List.map_nil, List.zip_cons_cons, List.zip_nil_left, List.zip_nil_right, List.foldl_cons, List.foldl_nil, szl, ite_true, ite_false, Nat.zero_add, Nat.reduceAdd, Nat.reduceSub, ↓reduceIte, and_self, and_true, true_and, Bool.not_true, Bool.not_false, Bool.not_not, Bool.false_eq_true, reduceCtorEq, gN, gT, gsNil, gsCons, hName, hTup, hsNil, hsCons, Option.bind_some, Option.map_some, partO, seqv_tup, seqv_fl, decide_true, decide_false, Nat.reduceLeDiff, h]; try rfl))
  (simp only [bind_exc, toS_exc, seq_exc, seq_rt, x_var, x_c, x_bin, x_un, x_fn, x_bm, x_tst, x_notT, x_andT, x_orT, x_if, x_not, x_and, x_or, x_nil, x_cons, x_star, x_tup, x_lst, x_call, x_sl, x_oN, x_oS, x_lrg, x_trg, x_iseq, x_enum, x_zip, x_yes, x_mk, x_mt, x_fld, x_snil, x_set, x_ret, x_sif, x_drop, x_raise, x_asg, x_par, x_asgH, x_hsub, x_sfld, bind_ok, toS_ok, seq_nx, opt_ok, sel_0, sel_1, sel_2, sel_3, sel_nil, mkL_f, mkL_t, f_int, f_add, f_eqI, f_neI, f_abs, f_i1, f_max2, f_min2, f_neg, List.getElem?_cons_succ, List.getElem?_cons_zero, List.set_cons_succ, List.set_cons_zero, List.length_cons, List.length_nil, List.cons_append, List.nil_append, List.map_cons, List.map_nil, List.zip_cons_cons, List.zip_nil_left, List.zip_nil_right, List.foldl_cons, List.foldl_nil, szl, ite_true, ite_false, Nat.zero_add, Nat.reduceAdd, Nat.reduceSub, ↓reduceIte, and_self, and_true, true_and, Bool.not_true, Bool.not_false, Bool.not_not, Bool.false_eq_true, reduceCtorEq, gN, gT, gsNil, gsCons, hName, hTup, hsNil, hsCons, Option.bind_some, Option.map_some, partO, seqv_tup, seqv_fl, decide_true, decide_false, Nat.reduceLeDiff, cp]; try rfl)
theorem since_ok {t : Int} (h : st[k]? = some (machO c ss j)) (H : Hp st k c x hs ys) : F_since [.ref k, x, .int t] st = .ok (.tup ((hs.filter fun p => decide (t < p.1)).map slipD)) st := by
  have h1 := chk_ok h H
  have hl := H.len
  refine fn_rt (d := .tup ((hs.filter fun p => decide (t < p.1)).map slipD)) (st' := st) [some (.ref k), some x, some (.int t), none] rfl rfl ?_ (gcD_same rfl)
  unfold b_since
  have cp := comp_of (c := mCall F_checked_heap 2 0 [0, 1] (aCons (mVar 0) (aCons (mVar 1) aNil)) aNil) (g := gN 3) (vs := [3]) (te := mVar 3) (tt := mTst (mBin fGt (mBin fIxA (mVar 3) (mC (.int 0))) (mVar 2))) (e := [some (.ref k), some x, some (.int t), none]) (st := st) (xs := hs) slipD (fun p => decide (t < p.1)) slipD (d := .tup (hs.map slipD)) (by (simp only [bind_exc, toS_exc, seq_exc, seq_rt, x_var, x_c, x_bin, x_un, x_fn, x_bm, x_tst, x_notT, x_andT, x_orT, x_if, x_not, x_and, x_or, x_nil, x_cons, x_star, x_tup, x_lst, x_call, x_sl, x_oN, x_oS, x_lrg, x_trg, x_iseq, x_enum, x_zip, x_yes, x_mk, x_mt, x_fld, x_snil, x_set, x_ret, x_sif, x_drop, x_raise, x_asg, x_par, x_asgH, x_hsub, x_sfld, bind_ok, toS_ok, seq_nx, opt_ok, sel_0, sel_1, sel_2, sel_3, sel_nil, mkL_f, mkL_t, f_int, f_add, f_eqI, f_neI, f_abs, f_i1, f_max2, f_min2, f_neg, List.getElem?_cons_succ, List.getElem?_cons_zero, List.set_cons_succ, List.set_cons_zero, List.length_cons, List.length_nil, List.cons_append, List.nil_append, List.map_cons, List.map_nil, List.zip_cons_cons, List.zip_nil_left, List.zip_nil_right, List.foldl_cons, List.foldl_nil, szl, ite_true, ite_false, Nat.zero_add, Nat.reduceAdd, Nat.reduceSub, ↓reduceIte, and_self, and_true, true_and, Bool.not_true, Bool.not_false, Bool.not_not, Bool.false_eq_true, reduceCtorEq, gN, gT, gsNil, gsCons, hName, hTup, hsNil, hsCons, Option.bind_some, Option.map_some, partO, seqv_tup, seqv_fl, decide_true, decide_false, Nat.reduceLeDiff, h1]; try rfl)) rfl (by omega) (fun p hp => ⟨[some (.ref k), some x, some (.int t), some (slipD p)], rfl, (by (simp only [bind_exc, toS_exc, seq_exc, seq_rt, x_var, x_c, x_bin, x_un, x_fn, x_bm, x_tst, x_notT, x_andT, x_orT, x_if, x_not, x_and, x_or, x_nil, x_cons, x_star, x_tup, x_lst, x_call, x_sl, x_oN, x_oS, x_lrg, x_trg, x_iseq, x_enum, x_zip, x_yes, x_mk, x_mt, x_fld, x_snil, x_set, x_ret, x_sif, x_drop, x_raise, x_asg, x_par, x_asgH, x_hsub, x_sfld, bind_ok, toS_ok, seq_nx, opt_ok, sel_0, sel_1, sel_2, sel_3, sel_nil, mkL_f, mkL_t, f_int, f_add, f_eqI, f_neI, f_abs, f_i1, f_max2, f_min2, f_neg, List.getElem?_cons_succ, List.getElem?_cons_zero, List.set_cons_succ, List.set_cons_zero, List.length_cons, List.length_nil, List.cons_append, List.nil_append, List.map_cons, List.map_nil, List.zip_cons_cons, List.zip_nil_left, List.zip_nil_right, List.foldl_cons, List.foldl_nil, szl, ite_true, ite_false, Nat.zero_add, Nat.reduceAdd, Nat.reduceSub, ↓reduceIte, and_self, and_true, true_and, Bool.not_true, Bool.not_false, Bool.not_not, Bool.false_eq_true, reduceCtorEq, gN, gT, gsNil, gsCons, hName, hTup, hsNil, hsCons, Option.bind_some, Option.map_some, partO, seqv_tup, seqv_fl, decide_true, decide_false, Nat.reduceLeDiff, i0s]; try rfl)), fun _ => rfl⟩)
  have t1 := tuple_of (st := st) (x := .fl ((hs.filter fun p => decide (t < p.1)).map slipD)) (ys := (hs.filter fun p => decide (t < p.1)).map slipD) rfl
  (simp only [bind_exc, toS_exc, seq_exc, seq_rt, x_var, x_c, x_bin, x_un, x_fn, x_bm, x_tst, x_notT, x_andT, x_orT, x_if, x_not, x_and, x_or, x_nil, x_cons, x_star, x_tup, x_lst, x_call, x_sl, x_oN, x_oS, x_lrg, x_trg, x_iseq, x_enum, x_zip, x_yes, x_mk, x_mt, x_fld, x_snil, x_set, x_ret, x_sif, x_drop, x_raise, x_asg, x_par, x_asgH, x_hsub, x_sfld, bind_ok, toS_ok, seq_nx, opt_ok, sel_0, sel_1, sel_2, sel_3, sel_nil, mkL_f, mkL_t, f_int, f_add, f_eqI, f_neI, f_abs, f_i1, f_max2, f_min2, f_neg, List.getElem?_cons_succ, List.getElem?_cons_zero, List.set_cons_succ, List.set_cons_zero, List.length_cons, List.length_nil, List.cons_append, List.nil_append, List.map_cons, List.map_nil, List.zip_cons_cons, List.zip_nil_left, List.zip_nil_right, List.foldl_cons, List.foldl_nil, szl, ite_true, ite_false, Nat.zero_add, Nat.reduceAdd, Nat.reduceSub, ↓reduceIte, and_self, and_true, true_and, Bool.not_true, Bool.not_false, Bool.not_not, Bool.false_eq_true, reduceCtorEq, gN, gT, gsNil, gsCons, hName, hTup, hsNil, hsCons, Option.bind_some, Option.map_some, partO, seqv_tup, seqv_fl, decide_true, decide_false, Nat.reduceLeDiff, cp, t1]; try rfl)
theorem until_ok {t : Int} (h : st[k]? = some (machO c ss j)) (H : Hp st k c x hs ys) : F_until [.ref k, x, .int t] st = .ok (.tup ((hs.filter fun p => decide (p.1 < t)).map slipD)) st := by
  have h1 := chk_ok h H
  have hl := H.len
  refine fn_rt (d := .tup ((hs.filter fun p => decide (p.1 < t)).map slipD)) (st' := st) [some (.ref k), some x, some (.int t), none] rfl rfl ?_ (gcD_same rfl)
  unfold b_until
  have cp := comp_of (c := mCall F_checked_heap 2 0 [0, 1] (aCons (mVar 0) (aCons (mVar 1) aNil)) aNil) (g := gN 3) (vs := [3]) (te := mVar 3) (tt := mTst (mBin fLt (mBin fIxA (mVar 3) (mC (.int 0))) (mVar 2))) (e := [some (.ref k), some x, some (.int t), none]) (st := st) (xs := hs) slipD (fun p => decide (p.1 < t)) slipD (d := .tup (hs.map slipD)) (by (simp only [bind_exc, toS_exc, seq_exc, seq_rt, x_var, x_c, x_bin, x_un, x_fn, x_bm, x_tst, x_notT, x_andT, x_orT, x_if, x_not, x_and, x_or, x_nil, x_cons, x_star, x_tup, x_lst, x_call, x_sl, x_oN, x_oS, x_lrg, x_trg, x_iseq, x_enum, x_zip, x_yes, x_mk, x_mt, x_fld, x_snil, x_set, x_ret, x_sif, x_drop, x_raise, x_asg, x_par, x_asgH, x_hsub, x_sfld, bind_ok, toS_ok, seq_nx, opt_ok, sel_0, sel_1, sel_2, sel_3, sel_nil, mkL_f, mkL_t, f_int, f_add, f_eqI, f_neI, f_abs, f_i1, f_max2, f_min2, f_neg, List.getElem?_cons_succ, List.getElem?_cons_zero, List.set_cons_succ, List.set_cons_zero, List.length_cons, List.length_nil, List.cons_append, List.nil_append, List.map_cons, List.map_nil, List.zip_cons_cons, List.zip_nil_left, List.zip_nil_right, List.foldl_cons, List.foldl_nil, szl, ite_true, ite_false, Nat.zero_add, Nat.reduceAdd, Nat.reduceSub, ↓reduceIte, and_self, and_true, true_and, Bool.not_true, Bool.not_false, Bool.not_not, Bool.false_eq_true, reduceCtorEq, gN, gT, gsNil, gsCons, hName, hTup, hsNil, hsCons, Option.bind_some, Option.map_some, partO, seqv_tup, seqv_fl, decide_true, decide_false, Nat.reduceLeDiff, h1]; try rfl)) rfl (by omega) (fun p hp => ⟨[some (.ref k), some x, some (.int t), some (slipD p)], rfl, (by (simp only [bind_exc, toS_exc, seq_exc, seq_rt, x_var, x_c, x_bin, x_un, x_fn, x_bm, x_tst, x_notT, x_andT, x_orT, x_if, x_not, x_and, x_or, x_nil, x_cons, x_star, x_tup, x_lst, x_call, x_sl, x_oN, x_oS, x_lrg, x_trg, x_iseq, x_enum, x_zip, x_yes, x_mk, x_mt, x_fld, x_snil, x_set, x_ret, x_sif, x_drop, x_raise, x_asg, x_par, x_asgH, x_hsub, x_sfld, bind_ok, toS_ok, seq_nx, opt_ok, sel_0, sel_1, sel_2, sel_3, sel_nil, mkL_f, mkL_t, f_int, f_add, f_eqI, f_neI, f_abs, f_i1, f_max2, f_min2, f_neg, List.getElem?_cons_succ, List.getElem?_cons_zero, List.set_cons_succ, List.set_cons_zero, List.length_cons, List.length_nil, List.cons_append, List.nil_append, List.map_cons, List.map_nil, List.zip_cons_cons, List.zip_nil_left, List.zip_nil_right, List.foldl_cons, List.foldl_nil, szl, ite_true, ite_false, Nat.zero_add, Nat.reduceAdd, Nat.reduceSub, ↓reduceIte, and_self, and_true, true_and, Bool.not_true, Bool.not_false, Bool.not_not, Bool.false_eq_true, reduceCtorEq, gN, gT, gsNil, gsCons, hName, hTup, hsNil, hsCons, Option.bind_some, Option.map_some, partO, seqv_tup, seqv_fl, decide_true, decide_false, Nat.reduceLeDiff, i0s]; try rfl)), fun _ => rfl⟩)
  have t1 := tuple_of (st := st) (x := .fl ((hs.filter fun p => decide (p.1 < t)).map slipD)) (ys := (hs.filter fun p => decide (p.1 < t)).map slipD) rfl
  (simp only [bind_exc, toS_exc, seq_exc, seq_rt, x_var, x_c, x_bin, x_un, x_fn, x_bm, x_tst, x_notT, x_andT, x_orT, x_if, x_not, x_and, x_or, x_nil, x_cons, x_star, x_tup, x_lst, x_call, x_sl, x_oN, x_oS, x_lrg, x_trg, x_iseq, x_enum, x_zip, x_yes, x_mk, x_mt, x_fld, x_snil, x_set, x_ret, x_sif, x_drop, x_raise, x_asg, x_par, x_asgH, x_hsub, x_sfld, bind_ok, toS_ok, seq_nx, opt_ok, sel_0, sel_1, sel_2, sel_3, sel_nil, mkL_f, mkL_t, f_int, f_add, f_eqI, f_neI, f_abs, f_i1, f_max2, f_min2, f_neg, List.getElem?_cons_succ, List.getElem?_cons_zero, List.set_cons_succ, List.set_cons_zero, List.length_cons, List.length_nil, List.cons_append, List.nil_append, List.map_cons, List.map_nil, List.zip_cons_cons, List.zip_nil_left, List.zip_nil_right, List.foldl_cons, List.foldl_nil, szl, ite_true, ite_false, Nat.zero_add, Nat.reduceAdd, Nat.reduceSub, ↓reduceIte, and_self, and_true, true_and, Bool.not_true, Bool.not_false, Bool.not_not, Bool.false_eq_true, reduceCtorEq, gN, gT, gsNil, gsCons, hName, hTup, hsNil, hsCons, Option.bind_some, Option.map_some, partO, seqv_tup, seqv_fl, decide_true, decide_false, Nat.reduceLeDiff, cp, t1]; try rfl)
theorem since_exc {v : Option D} {ex : Str} {t : D} (h : F_checked_heap [.ref k, x] st = .exc ex v st) (hv : gcX st.length ex v st = .exc ex v st) : F_since [.ref k, x, t] st = .exc ex v st := by
  refine fn_exc (e := [some (.ref k), some x, some t, none]) (st' := st) [some (.ref k), some x, some t, none] rfl rfl ?_ hv
  unfold b_since
  have cp := comp_exc (o := false) (c := mCall F_checked_heap 2 0 [0, 1] (aCons (mVar 0) (aCons (mVar 1) aNil)) aNil) (g := gN 3) (vs := [3]) (te := mVar 3) (tt := mTst (mBin fGt (mBin fIxA (mVar 3) (mC (.int 0))) (mVar 2))) (e := [some (.ref k), some x, some t, none]) (st := st) (st1 := st) (ex := ex) (v := v) (by (simp only [bind_exc, toS_exc, seq_exc, seq_rt, x_var, x_c, x_bin, x_un, x_fn, x_bm, x_tst, x_notT, x_andT, x_orT, x_if, x_not, x_and, x_or, x_nil, x_cons, x_star, x_tup, x_lst, x_call, x_sl, x_oN, x_oS, x_lrg, x_trg, x_iseq, x_enum, x_zip, x_yes, x_mk, x_mt, x_fld, x_snil, x_set, x_ret, x_sif, x_drop, x_raise, x_asg, x_par, x_asgH, x_hsub, x_sfld, bind_ok, toS_ok, seq_nx, opt_ok, sel_0, sel_1, sel_2, sel_3, sel_nil, mkL_f, mkL_t, f_int, f_add, f_eqI, f_neI, f_abs, f_i1, f_max2, f_min2, f_neg, List.getElem?_cons_succ, List.getElem?_cons_zero, List.set_cons_succ, List.set_cons_zero, List.length_cons, List.length_nil, List.cons_append, List.nil_append, List.map_cons, List.map_nil, List.zip_cons_cons, List.zip_nil_left, List.zip_nil_right, List.foldl_cons, List.foldl_nil, szl, ite_true, ite_false, Nat.zero_add, Nat.reduceAdd, Nat.reduceSub, ↓reduceIte, and_self, and_true, true_and, Bool.not_true, Bool.not_false, Bool.not_not, Bool.false_eq_true, reduceCtorEq, gN, gT, gsNil, gsCons, hName, hTup, hsNil, hsCons, Option.bind_some, Option.map_some, partO, seqv_tup, seqv_fl, decide_true, decide_false, Nat.reduceLeDiff, h]; try rfl))
  (simp only [bind_exc, toS_exc, seq_exc, seq_rt, x_var, x_c, x_bin, x_un, x_fn, x_bm, x_tst, x_notT, x_andT, x_orT, x_if, x_not, x_and, x_or, x_nil, x_cons, x_star, x_tup, x_lst, x_call, x_sl, x_oN, x_oS, x_lrg, x_trg, x_iseq, x_enum, x_zip, x_yes, x_mk, x_mt, x_fld, x_snil, x_set, x_ret, x_sif, x_drop, x_raise, x_asg, x_par, x_asgH, x_hsub, x_sfld, bind_ok, toS_ok, seq_nx, opt_ok, sel_0, sel_1, sel_2, sel_3, sel_nil, mkL_f, mkL_t, f_int, f_add, f_eqI, f_neI, f_abs, f_i1, f_max2, f_min2, f_neg, List.getElem?_cons_succ, List.getElem?_cons_zero, List.set_cons_succ, List.set_cons_zero, List.length_cons, List.length_nil, List.cons_append, List.nil_append, List.map_cons, List.map_nil, List.zip_cons_cons, List.zip_nil_left, List.zip_nil_right, List.foldl_cons, List.foldl_nil, szl, ite_true, ite_false, Nat.zero_add, Nat.reduceAdd, Nat.reduceSub, ↓reduceIte, and_self, and_true, true_and, Bool.not_true, Bool.not_false, Bool.not_not, Bool.false_eq_true, reduceCtorEq, gN, gT, gsNil, gsCons, hName, hTup, hsNil, hsCons, Option.bind_some, Option.map_some, partO, seqv_tup, seqv_fl, decide_true, decide_false, Nat.reduceLeDiff, cp]; try rfl)
theorem until_exc {v : Option D} {ex : Str} {t : D} (h : F_checked_heap [.ref k, x] st = .exc ex v st) (hv : gcX st.length ex v st = .exc ex v st) : F_until [.ref k, x, t] st = .exc ex v st := by
  refine fn_exc (e := [some (.ref k), some x, some t, none]) (st' := st) [some (.ref k), some x, some t, none] rfl rfl ?_ hv
  unfold b_until
  have cp := comp_exc (o := false) (c := mCall F_checked_heap 2 0 [0, 1] (aCons (mVar 0) (aCons (mVar 1) aNil)) aNil) (g := gN 3) (vs := [3]) (te := mVar 3) (tt := mTst (mBin fLt (mBin fIxA (mVar 3) (mC (.int 0))) (mVar 2))) (e := [some (.ref k), some x, some t, none]) (st := st) (st1 := st) (ex := ex) (v := v) (by (simp only [bind_exc, toS_exc, seq_exc, seq_rt, x_var, x_c, x_bin, x_un, x_fn, x_bm, x_tst, x_notT, x_andT, x_orT, x_if, x_not, x_and, x_or, x_nil, x_cons, x_star, x_tup, x_lst, x_call, x_sl, x_oN, x_oS, x_lrg, x_trg, x_iseq, x_enum, x_zip, x_yes, x_mk, x_mt, x_fld, x_snil, x_set, x_ret, x_sif, x_drop, x_raise, x_asg, x_par, x_asgH, x_hsub, x_sfld, bind_ok, toS_ok, seq_nx, opt_ok, sel_0, sel_1, sel_2, sel_3, sel_nil, mkL_f, mkL_t, f_int, f_add, f_eqI, f_neI, f_abs, f_i1, f_max2, f_min2, f_neg, List.getElem?_cons_succ, List.getElem?_cons_zero, List.set_cons_succ, List.set_cons_zero, List.length_cons, List.length_nil, List.cons_append, List.nil_append, List.map_cons, List.map_nil, List.zip_cons_cons, List.zip_nil_left, List.zip_nil_right, List.foldl_cons, List.foldl_nil, szl, ite_true, ite_false, Nat.zero_add, Nat.reduceAdd, Nat.reduceSub, ↓reduceIte, and_self, and_true, true_and, Bool.not_true, Bool.not_false, Bool.not_not, Bool.false_eq_true, reduceCtorEq, gN, gT, gsNil, gsCons, hName, hTup, hsNil, hsCons, Option.bind_some, Option.map_some, partO, seqv_tup, seqv_fl, decide_true, decide_false, Nat.reduceLeDiff, h]; try rfl))
  (simp only [bind_exc, toS_exc, seq_exc, seq_rt, x_var, x_c, x_bin, x_un, x_fn, x_bm, x_tst, x_notT, x_andT, x_orT, x_if, x_not, x_and, x_or, x_nil, x_cons, x_star, x_tup, x_lst, x_call, x_sl, x_oN, x_oS, x_lrg, x_trg, x_iseq, x_enum, x_zip, x_yes, x_mk, x_mt, x_fld, x_snil, x_set, x_ret, x_sif, x_drop, x_raise, x_asg, x_par, x_asgH, x_hsub, x_sfld, bind_ok, toS_ok, seq_nx, opt_ok, sel_0, sel_1, sel_2, sel_3, sel_nil, mkL_f, mkL_t, f_int, f_add, f_eqI, f_neI, f_abs, f_i1, f_max2, f_min2, f_neg, List.getElem?_cons_succ, List.getElem?_cons_zero, List.set_cons_succ, List.set_cons_zero, List.length_cons, List.length_nil, List.cons_append, List.nil_append, List.map_cons, List.map_nil, List.zip_cons_cons, List.zip_nil_left, List.zip_nil_right, List.foldl_cons, List.foldl_nil, szl, ite_true, ite_false, Nat.zero_add, Nat.reduceAdd, Nat.reduceSub, ↓reduceIte, and_self, and_true, true_and, Bool.not_true, Bool.not_false, Bool.not_not, Bool.false_eq_true, reduceCtorEq, gN, gT, gsNil, gsCons, hName, hTup, hsNil, hsCons, Option.bind_some, Option.map_some, partO, seqv_tup, seqv_fl, decide_true, decide_false, Nat.reduceLeDiff, cp]; try rfl)
/-- the walk of the program -/
theorem led_ok {s : Int} {row : List Int} (h : st[k]? = some (machO c ss j)) (hm : Mach c ss) (hs : 0 ≤ s ∧ s < ss.length) (hq : ∀ q ∈ row, 0 ≤ q ∧ q < c) (hx : seqv st x = some (row.map .int)) : F_led [.ref k, .int s, x] st = .ok (.int (ledI ss s row)) st := by
  obtain ⟨gd, hw, hg⟩ := walkD_of hx
  have fs := fld_steps h
  have key : ∀ (row : List Int) (s : Int) (y : Option D), (0 ≤ s ∧ s < ss.length) → (∀ q ∈ row, 0 ≤ q ∧ q < c) → ∃ y', fRun (gN 3) (sSet 1 (mBin fIxA (mBin fIxA (mFld fldT "steps" (mVar 0)) (mVar 1)) (mVar 3))) gd (row.map .int) [some (.ref k), some (.int s), some x, y] st = .nx [some (.ref k), some (.int (ledI ss s row)), some x, y'] st := by
    intro row
    induction row with
    | nil => exact fun s y _ _ => ⟨y, fRun_end hg⟩
    | cons q r ih =>
      intro s y hs hq
      obtain ⟨y', hy⟩ := ih (stepI ss s q) (some (.int q)) (step_in hm hs (hq q List.mem_cons_self)) (fun z hz => hq z (List.mem_cons_of_mem _ hz))
      obtain ⟨i1, i2⟩ := ix_step (st := st) (x := .tup (ss.map fun r => .tup (r.map .int))) (f := fun r => .tup (r.map .int)) (fun _ _ => rfl) hm hs (hq q List.mem_cons_self) rfl
      refine ⟨y', ?_⟩
      rw [List.map_cons, fRun_nx (e1 := [some (.ref k), some (.int s), some x, some (.int q)]) (e2 := [some (.ref k), some (.int (stepI ss s q)), some x, some (.int q)]) (st2 := st) hg rfl (by (simp only [bind_exc, toS_exc, seq_exc, seq_rt, x_var, x_c, x_bin, x_un, x_fn, x_bm, x_tst, x_notT, x_andT, x_orT, x_if, x_not, x_and, x_or, x_nil, x_cons, x_star, x_tup, x_lst, x_call, x_sl, x_oN, x_oS, x_lrg, x_trg, x_iseq, x_enum, x_zip, x_yes, x_mk, x_mt, x_fld, x_snil, x_set, x_ret, x_sif, x_drop, x_raise, x_asg, x_par, x_asgH, x_hsub, x_sfld, bind_ok, toS_ok, seq_nx, opt_ok, sel_0, sel_1, sel_2, sel_3, sel_nil, mkL_f, mkL_t, f_int, f_add, f_eqI, f_neI, f_abs, f_i1, f_max2, f_min2, f_neg, List.getElem?_cons_succ, List.getElem?_cons_zero, List.set_cons_succ, List.set_cons_zero, List.length_cons, List.length_nil, List.cons_append, List.nil_append, List.map_cons, List.map_nil, List.zip_cons_cons, List.zip_nil_left, List.zip_nil_right, List.foldl_cons, List.foldl_nil, szl, ite_true, ite_false, Nat.zero_add, Nat.reduceAdd, Nat.reduceSub, ↓reduceIte, and_self, and_true, true_and, Bool.not_true, Bool.not_false, Bool.not_not, Bool.false_eq_true, reduceCtorEq, gN, gT, gsNil, gsCons, hName, hTup, hsNil, hsCons, Option.bind_some, Option.map_some, partO, seqv_tup, seqv_fl, decide_true, decide_false, Nat.reduceLeDiff, fs, i1, i2]; try rfl)), hy]
      rfl
  obtain ⟨y, hy⟩ := key row s none hs hq
  refine fn_rt (d := .int (ledI ss s row)) (st' := st) [some (.ref k), some (.int s), some x, none] rfl rfl ?_ (gcD_same rfl)
  unfold b_led
  have q3 : sFor (iSeq (mVar 2)) (gN 3) (sSet 1 (mBin fIxA (mBin fIxA (mFld fldT "steps" (mVar 0)) (mVar 1)) (mVar 3))) [some (.ref k), some (.int s), some x, none] st = .nx [some (.ref k), some (.int (ledI ss s row)), some x, y] st := by
    rw [x_for, x_iseq, x_var]
    simp only [List.getElem?_cons_succ, List.getElem?_cons_zero]
    rw [bind_ok, hw, toS_ok]
    exact hy
  rw [x_seq, q3, seq_nx]
  (simp only [bind_exc, toS_exc, seq_exc, seq_rt, x_var, x_c, x_bin, x_un, x_fn, x_bm, x_tst, x_notT, x_andT, x_orT, x_if, x_not, x_and, x_or, x_nil, x_cons, x_star, x_tup, x_lst, x_call, x_sl, x_oN, x_oS, x_lrg, x_trg, x_iseq, x_enum, x_zip, x_yes, x_mk, x_mt, x_fld, x_snil, x_set, x_ret, x_sif, x_drop, x_raise, x_asg, x_par, x_asgH, x_hsub, x_sfld, bind_ok, toS_ok, seq_nx, opt_ok, sel_0, sel_1, sel_2, sel_3, sel_nil, mkL_f, mkL_t, f_int, f_add, f_eqI, f_neI, f_abs, f_i1, f_max2, f_min2, f_neg, List.getElem?_cons_succ, List.getElem?_cons_zero, List.set_cons_succ, List.set_cons_zero, List.length_cons, List.length_nil, List.cons_append, List.nil_append, List.map_cons, List.map_nil, List.zip_cons_cons, List.zip_nil_left, List.zip_nil_right, List.foldl_cons, List.foldl_nil, szl, ite_true, ite_false, Nat.zero_add, Nat.reduceAdd, Nat.reduceSub, ↓reduceIte, and_self, and_true, true_and, Bool.not_true, Bool.not_false, Bool.not_not, Bool.false_eq_true, reduceCtorEq, gN, gT, gsNil, gsCons, hName, hTup, hsNil, hsCons, Option.bind_some, Option.map_some, partO, seqv_tup, seqv_fl, decide_true, decide_false, Nat.reduceLeDiff]; try rfl)
theorem truth_ok {s : Int} (h : st[k]? = some (machO c ss j)) (hm : Mach c ss) (hs' : 0 ≤ s ∧ s < ss.length) (H : Hp st k c x hs ys) : F_truth [.ref k, .int s, x] st = .ok (.int (ledI ss s (hs.map (·.2)))) st := by
  have h1 := row_of_ok h H
  have h2 := index_ok (st := st) (d := .int s) (t := "int") (n := ss.length) rfl
  have h3 : ixD ss.length (.int s) = true := by simp only [ixD, decide_eq_true hs'.1, decide_eq_true hs'.2, Bool.and_self]
  have h4 := led_ok (x := .tup ((hs.map (·.2)).map .int)) (row := hs.map (·.2)) h hm hs' (fun q hq => by
    obtain ⟨p, hp, rfl⟩ := List.mem_map.mp hq
    exact (H.ok p hp).2) rfl
  rw [h3] at h2
  refine fn_rt (d := .int (ledI ss s (hs.map (·.2)))) (st' := st) [some (.ref k), some (.int s), some x] rfl rfl ?_ (gcD_same rfl)
  unfold b_truth
  (simp only [bind_exc, toS_exc, seq_exc, seq_rt, x_var, x_c, x_bin, x_un, x_fn, x_bm, x_tst, x_notT, x_andT, x_orT, x_if, x_not, x_and, x_or, x_nil, x_cons, x_star, x_tup, x_lst, x_call, x_sl, x_oN, x_oS, x_lrg, x_trg, x_iseq, x_enum, x_zip, x_yes, x_mk, x_mt, x_fld, x_snil, x_set, x_ret, x_sif, x_drop, x_raise, x_asg, x_par, x_asgH, x_hsub, x_sfld, bind_ok, toS_ok, seq_nx, opt_ok, sel_0, sel_1, sel_2, sel_3, sel_nil, mkL_f, mkL_t, f_int, f_add, f_eqI, f_neI, f_abs, f_i1, f_max2, f_min2, f_neg, List.getElem?_cons_succ, List.getElem?_cons_zero, List.set_cons_succ, List.set_cons_zero, List.length_cons, List.length_nil, List.cons_append, List.nil_append, List.map_cons, List.map_nil, List.zip_cons_cons, List.zip_nil_left, List.zip_nil_right, List.foldl_cons, List.foldl_nil, szl, ite_true, ite_false, Nat.zero_add, Nat.reduceAdd, Nat.reduceSub, ↓reduceIte, and_self, and_true, true_and, Bool.not_true, Bool.not_false, Bool.not_not, Bool.false_eq_true, reduceCtorEq, gN, gT, gsNil, gsCons, hName, hTup, hsNil, hsCons, Option.bind_some, Option.map_some, partO, seqv_tup, seqv_fl, decide_true, decide_false, Nat.reduceLeDiff, x_seq, fld_states h, h2, h1, h4]; try rfl)
theorem truth_none {s : D} (h : st[k]? = some (machO c ss j)) (ht : Tg st s) (hs' : ixD ss.length s = false) : F_truth [.ref k, s, x] st = .exc "Refused" (some (.int 0)) st := by
  obtain ⟨t, ht⟩ := ht
  have h2 := index_ok (st := st) (n := ss.length) ht
  rw [hs'] at h2
  refine fn_exc (e := [some (.ref k), some s, some x]) (st' := st) [some (.ref k), some s, some x] rfl rfl ?_ (gcX_same rfl)
  unfold b_truth
  (simp only [bind_exc, toS_exc, seq_exc, seq_rt, x_var, x_c, x_bin, x_un, x_fn, x_bm, x_tst, x_notT, x_andT, x_orT, x_if, x_not, x_and, x_or, x_nil, x_cons, x_star, x_tup, x_lst, x_call, x_sl, x_oN, x_oS, x_lrg, x_trg, x_iseq, x_enum, x_zip, x_yes, x_mk, x_mt, x_fld, x_snil, x_set, x_ret, x_sif, x_drop, x_raise, x_asg, x_par, x_asgH, x_hsub, x_sfld, bind_ok, toS_ok, seq_nx, opt_ok, sel_0, sel_1, sel_2, sel_3, sel_nil, mkL_f, mkL_t, f_int, f_add, f_eqI, f_neI, f_abs, f_i1, f_max2, f_min2, f_neg, List.getElem?_cons_succ, List.getElem?_cons_zero, List.set_cons_succ, List.set_cons_zero, List.length_cons, List.length_nil, List.cons_append, List.nil_append, List.map_cons, List.map_nil, List.zip_cons_cons, List.zip_nil_left, List.zip_nil_right, List.foldl_cons, List.foldl_nil, szl, ite_true, ite_false, Nat.zero_add, Nat.reduceAdd, Nat.reduceSub, ↓reduceIte, and_self, and_true, true_and, Bool.not_true, Bool.not_false, Bool.not_not, Bool.false_eq_true, reduceCtorEq, gN, gT, gsNil, gsCons, hName, hTup, hsNil, hsCons, Option.bind_some, Option.map_some, partO, seqv_tup, seqv_fl, decide_true, decide_false, Nat.reduceLeDiff, x_seq, fld_states h, h2]; try rfl)
theorem truth_exc {s : Int} {i : Int} (h : st[k]? = some (machO c ss j)) (hs' : 0 ≤ s ∧ s < ss.length) (he : F_checked_heap [.ref k, x] st = .exc "InvalidSlip" (some (.int i)) st) : F_truth [.ref k, .int s, x] st = .exc "InvalidSlip" (some (.int i)) st := by
  have h1 := row_of_exc he (gcX_same rfl)
  have h2 := index_ok (st := st) (d := .int s) (t := "int") (n := ss.length) rfl
  have h3 : ixD ss.length (.int s) = true := by simp only [ixD, decide_eq_true hs'.1, decide_eq_true hs'.2, Bool.and_self]
  rw [h3] at h2
  refine fn_exc (e := [some (.ref k), some (.int s), some x]) (st' := st) [some (.ref k), some (.int s), some x] rfl rfl ?_ (gcX_same rfl)
  unfold b_truth
  (simp only [bind_exc, toS_exc, seq_exc, seq_rt, x_var, x_c, x_bin, x_un, x_fn, x_bm, x_tst, x_notT, x_andT, x_orT, x_if, x_not, x_and, x_or, x_nil, x_cons, x_star, x_tup, x_lst, x_call, x_sl, x_oN, x_oS, x_lrg, x_trg, x_iseq, x_enum, x_zip, x_yes, x_mk, x_mt, x_fld, x_snil, x_set, x_ret, x_sif, x_drop, x_raise, x_asg, x_par, x_asgH, x_hsub, x_sfld, bind_ok, toS_ok, seq_nx, opt_ok, sel_0, sel_1, sel_2, sel_3, sel_nil, mkL_f, mkL_t, f_int, f_add, f_eqI, f_neI, f_abs, f_i1, f_max2, f_min2, f_neg, List.getElem?_cons_succ, List.getElem?_cons_zero, List.set_cons_succ, List.set_cons_zero, List.length_cons, List.length_nil, List.cons_append, List.nil_append, List.map_cons, List.map_nil, List.zip_cons_cons, List.zip_nil_left, List.zip_nil_right, List.foldl_cons, List.foldl_nil, szl, ite_true, ite_false, Nat.zero_add, Nat.reduceAdd, Nat.reduceSub, ↓reduceIte, and_self, and_true, true_and, Bool.not_true, Bool.not_false, Bool.not_not, Bool.false_eq_true, reduceCtorEq, gN, gT, gsNil, gsCons, hName, hTup, hsNil, hsCons, Option.bind_some, Option.map_some, partO, seqv_tup, seqv_fl, decide_true, decide_false, Nat.reduceLeDiff, x_seq, fld_states h, h2, h1]; try rfl)
end
end K03

namespace K03
open PySem L2 Mi SrtO
section
variable {st : Sto} {d v x : D} {t : String} {c k j : Nat} {ss : List (List Int)} {hs ys : List (Int × Int)}
def putO (hs : List (Int × Int)) (p : Int × Int) : D := .tup (isS ltPD ((hs ++ [p]).map slipD))
theorem put_ok {p : Int × Int} (h : st[k]? = some (machO c ss j)) (H : Hp st k c x hs ys) (hv : 0 ≤ p.1 ∧ 0 ≤ p.2 ∧ p.2 < c) : F_put_in [.ref k, x, slipD p] st = if p.1 ∈ hs.map (·.1) then .exc "Refused" (some (.int 0)) st else .ok (putO hs p) st := by
  have h1 := chk_ok h H
  have hl := H.len
  have h2 := cslip_ok (v := slipD p) h lk_slip (slipB_slip hv)
  have cp := comp_all (c := mVar 3) (g := gT 2 (gsCons (gN 5) (gsCons (gN 6) gsNil))) (vs := [5, 6]) (te := mVar 5) (e := [some (.ref k), some x, some (slipD p), some (.tup (hs.map slipD)), some (slipD p), none, none]) (st := st) (xs := hs) slipD (fun p => .int p.1) (d := .tup (hs.map slipD)) (by (simp only [bind_exc, toS_exc, seq_exc, seq_rt, x_var, x_c, x_bin, x_un, x_fn, x_bm, x_tst, x_notT, x_andT, x_orT, x_if, x_not, x_and, x_or, x_nil, x_cons, x_star, x_tup, x_lst, x_call, x_sl, x_oN, x_oS, x_lrg, x_trg, x_iseq, x_enum, x_zip, x_yes, x_mk, x_mt, x_fld, x_snil, x_set, x_ret, x_sif, x_drop, x_raise, x_asg, x_par, x_asgH, x_hsub, x_sfld, bind_ok, toS_ok, seq_nx, opt_ok, sel_0, sel_1, sel_2, sel_3, sel_nil, mkL_f, mkL_t, f_int, f_add, f_eqI, f_neI, f_abs, f_i1, f_max2, f_min2, f_neg, List.getElem?_cons_succ, List.getElem?_cons_zero, List.set_cons_succ, List.set_cons_zero, List.length_cons, List.length_nil, List.cons_append, List.nil_append, List.map_cons, List.map_nil, List.zip_cons_cons, List.zip_nil_left, List.zip_nil_right, List.foldl_cons, List.foldl_nil, szl, ite_true, ite_false, Nat.zero_add, Nat.reduceAdd, Nat.reduceSub, ↓reduceIte, and_self, and_true, true_and, Bool.not_true, Bool.not_false, Bool.not_not, Bool.false_eq_true, reduceCtorEq, gN, gT, gsNil, gsCons, hName, hTup, hsNil, hsCons, Option.bind_some, Option.map_some, partO, seqv_tup, seqv_fl, decide_true, decide_false, Nat.reduceLeDiff]; try rfl)) rfl (by omega) (fun q hq => ⟨[some (.ref k), some x, some (slipD p), some (.tup (hs.map slipD)), some (slipD p), some (.int q.1), some (.int q.2)], rfl, rfl⟩)
  have ii := in_ints (st := st) (neg := false) (t := p.1) (ts := hs.map (·.1))
  rw [List.map_map] at ii
  by_cases q : p.1 ∈ hs.map (·.1)
  · rw [if_pos q]
    refine fn_exc (e := [some (.ref k), some x, some (slipD p), some (.tup (hs.map slipD)), some (slipD p), none, none]) (st' := st) [some (.ref k), some x, some (slipD p), none, none, none, none] rfl rfl ?_ (gcX_same rfl)
    have ii2 : fInA false (.int p.1) (.fl (hs.map fun p => D.int p.1)) st = .ok (.bl true) st := by
      rw [decide_eq_true q] at ii; exact ii
    unfold b_put_in
    (simp only [bind_exc, toS_exc, seq_exc, seq_rt, x_var, x_c, x_bin, x_un, x_fn, x_bm, x_tst, x_notT, x_andT, x_orT, x_if, x_not, x_and, x_or, x_nil, x_cons, x_star, x_tup, x_lst, x_call, x_sl, x_oN, x_oS, x_lrg, x_trg, x_iseq, x_enum, x_zip, x_yes, x_mk, x_mt, x_fld, x_snil, x_set, x_ret, x_sif, x_drop, x_raise, x_asg, x_par, x_asgH, x_hsub, x_sfld, bind_ok, toS_ok, seq_nx, opt_ok, sel_0, sel_1, sel_2, sel_3, sel_nil, mkL_f, mkL_t, f_int, f_add, f_eqI, f_neI, f_abs, f_i1, f_max2, f_min2, f_neg, List.getElem?_cons_succ, List.getElem?_cons_zero, List.set_cons_succ, List.set_cons_zero, List.length_cons, List.length_nil, List.cons_append, List.nil_append, List.map_cons, List.map_nil, List.zip_cons_cons, List.zip_nil_left, List.zip_nil_right, List.foldl_cons, List.foldl_nil, szl, ite_true, ite_false, Nat.zero_add, Nat.reduceAdd, Nat.reduceSub, ↓reduceIte, and_self, and_true, true_and, Bool.not_true, Bool.not_false, Bool.not_not, Bool.false_eq_true, reduceCtorEq, gN, gT, gsNil, gsCons, hName, hTup, hsNil, hsCons, Option.bind_some, Option.map_some, partO, seqv_tup, seqv_fl, decide_true, decide_false, Nat.reduceLeDiff, x_seq, h1, h2, cp, i0s, ii2]; try rfl)
  · rw [if_neg q]
    refine fn_rt (d := putO hs p) (st' := st) [some (.ref k), some x, some (slipD p), none, none, none, none] rfl rfl ?_ (gcD_same rfl)
    have ii2 : fInA false (.int p.1) (.fl (hs.map fun p => D.int p.1)) st = .ok (.bl false) st := by
      rw [decide_eq_false q] at ii; exact ii
    have so := sorted_slips (st := st) (x := .fl (hs.map slipD ++ [slipD p])) (ys := hs.map slipD ++ [slipD p]) rfl (fun y hy => by
      rcases List.mem_append.mp hy with hy | hy
      · obtain ⟨p, _, rfl⟩ := List.mem_map.mp hy
        rfl
      · rw [List.mem_singleton.mp hy]; rfl)
    have t1 := fun ys : List D => tuple_of (st := st) (x := .fl ys) (ys := ys) rfl
    have ln : (hs.map slipD ++ [slipD p]).length ≤ 16777216 := by rw [List.length_append, List.length_map, List.length_singleton]; omega
    unfold b_put_in
    (simp only [bind_exc, toS_exc, seq_exc, seq_rt, x_var, x_c, x_bin, x_un, x_fn, x_bm, x_tst, x_notT, x_andT, x_orT, x_if, x_not, x_and, x_or, x_nil, x_cons, x_star, x_tup, x_lst, x_call, x_sl, x_oN, x_oS, x_lrg, x_trg, x_iseq, x_enum, x_zip, x_yes, x_mk, x_mt, x_fld, x_snil, x_set, x_ret, x_sif, x_drop, x_raise, x_asg, x_par, x_asgH, x_hsub, x_sfld, bind_ok, toS_ok, seq_nx, opt_ok, sel_0, sel_1, sel_2, sel_3, sel_nil, mkL_f, mkL_t, f_int, f_add, f_eqI, f_neI, f_abs, f_i1, f_max2, f_min2, f_neg, List.getElem?_cons_succ, List.getElem?_cons_zero, List.set_cons_succ, List.set_cons_zero, List.length_cons, List.length_nil, List.cons_append, List.nil_append, List.map_cons, List.map_nil, List.zip_cons_cons, List.zip_nil_left, List.zip_nil_right, List.foldl_cons, List.foldl_nil, szl, ite_true, ite_false, Nat.zero_add, Nat.reduceAdd, Nat.reduceSub, ↓reduceIte, and_self, and_true, true_and, Bool.not_true, Bool.not_false, Bool.not_not, Bool.false_eq_true, reduceCtorEq, gN, gT, gsNil, gsCons, hName, hTup, hsNil, hsCons, Option.bind_some, Option.map_some, partO, seqv_tup, seqv_fl, decide_true, decide_false, Nat.reduceLeDiff, x_seq, h1, h2, cp, i0s, ii2, if_pos ln, so, t1, putO, List.map_append]; try rfl)
theorem put_exc {v : D} {ex : Str} {i : Int} (h : F_checked_heap [.ref k, x] st = .exc ex (some (.int i)) st) : F_put_in [.ref k, x, v] st = .exc ex (some (.int i)) st := by
  refine fn_exc (e := [some (.ref k), some x, some v, none, none, none, none]) (st' := st) [some (.ref k), some x, some v, none, none, none, none] rfl rfl ?_ (gcX_same rfl)
  unfold b_put_in
  (simp only [bind_exc, toS_exc, seq_exc, seq_rt, x_var, x_c, x_bin, x_un, x_fn, x_bm, x_tst, x_notT, x_andT, x_orT, x_if, x_not, x_and, x_or, x_nil, x_cons, x_star, x_tup, x_lst, x_call, x_sl, x_oN, x_oS, x_lrg, x_trg, x_iseq, x_enum, x_zip, x_yes, x_mk, x_mt, x_fld, x_snil, x_set, x_ret, x_sif, x_drop, x_raise, x_asg, x_par, x_asgH, x_hsub, x_sfld, bind_ok, toS_ok, seq_nx, opt_ok, sel_0, sel_1, sel_2, sel_3, sel_nil, mkL_f, mkL_t, f_int, f_add, f_eqI, f_neI, f_abs, f_i1, f_max2, f_min2, f_neg, List.getElem?_cons_succ, List.getElem?_cons_zero, List.set_cons_succ, List.set_cons_zero, List.length_cons, List.length_nil, List.cons_append, List.nil_append, List.map_cons, List.map_nil, List.zip_cons_cons, List.zip_nil_left, List.zip_nil_right, List.foldl_cons, List.foldl_nil, szl, ite_true, ite_false, Nat.zero_add, Nat.reduceAdd, Nat.reduceSub, ↓reduceIte, and_self, and_true, true_and, Bool.not_true, Bool.not_false, Bool.not_not, Bool.false_eq_true, reduceCtorEq, gN, gT, gsNil, gsCons, hName, hTup, hsNil, hsCons, Option.bind_some, Option.map_some, partO, seqv_tup, seqv_fl, decide_true, decide_false, Nat.reduceLeDiff, x_seq, h]; try rfl)
theorem put_slip {v : D} (h : st[k]? = some (machO c ss j)) (H : Hp st k c x hs ys) (hv : Lk st v) (hb : slipB c v = false) : F_put_in [.ref k, x, v] st = .exc "InvalidSlip" (some (.int 0)) st := by
  have h1 := chk_ok h H
  have h2 := cslip_bad h hv hb
  refine fn_exc (e := [some (.ref k), some x, some v, none, none, none, none]) (st' := st) [some (.ref k), some x, some v, none, none, none, none] rfl rfl ?_ (gcX_same rfl)
  unfold b_put_in
  (simp only [bind_exc, toS_exc, seq_exc, seq_rt, x_var, x_c, x_bin, x_un, x_fn, x_bm, x_tst, x_notT, x_andT, x_orT, x_if, x_not, x_and, x_or, x_nil, x_cons, x_star, x_tup, x_lst, x_call, x_sl, x_oN, x_oS, x_lrg, x_trg, x_iseq, x_enum, x_zip, x_yes, x_mk, x_mt, x_fld, x_snil, x_set, x_ret, x_sif, x_drop, x_raise, x_asg, x_par, x_asgH, x_hsub, x_sfld, bind_ok, toS_ok, seq_nx, opt_ok, sel_0, sel_1, sel_2, sel_3, sel_nil, mkL_f, mkL_t, f_int, f_add, f_eqI, f_neI, f_abs, f_i1, f_max2, f_min2, f_neg, List.getElem?_cons_succ, List.getElem?_cons_zero, List.set_cons_succ, List.set_cons_zero, List.length_cons, List.length_nil, List.cons_append, List.nil_append, List.map_cons, List.map_nil, List.zip_cons_cons, List.zip_nil_left, List.zip_nil_right, List.foldl_cons, List.foldl_nil, szl, ite_true, ite_false, Nat.zero_add, Nat.reduceAdd, Nat.reduceSub, ↓reduceIte, and_self, and_true, true_and, Bool.not_true, Bool.not_false, Bool.not_not, Bool.false_eq_true, reduceCtorEq, gN, gT, gsNil, gsCons, hName, hTup, hsNil, hsCons, Option.bind_some, Option.map_some, partO, seqv_tup, seqv_fl, decide_true, decide_false, Nat.reduceLeDiff, x_seq, h1, h2]; try rfl)
/-! the law's question -/
noncomputable def corr (form : Int) (k x v : D) (st : Sto) : Out D := if form = 0 then F_checked_heap [k, x] st else if form = 1 then F_put_in [k, x, v] st else if form = 2 then F_row_of [k, x] st else if form = 3 then F_truth [k, v, x] st else F_checked_slip [k, v] st
noncomputable def atry : SM := (sSeq (sIf (mTst (mBin (fEq false) (mVar 1) (mC (.int 0)))) (sRet (mTup (aCons (mC (.str "told")) (aCons (mCall F_checked_heap 0 2 [1, 0] aNil (aCons (mVar 2) (aCons (mVar 0) aNil))) aNil)))) sNil)
    (sSeq (sIf (mTst (mBin (fEq false) (mVar 1) (mC (.int 1)))) (sRet (mTup (aCons (mC (.str "told")) (aCons (mCall F_put_in 0 3 [2, 1, 0] aNil (aCons (mVar 3) (aCons (mVar 2) (aCons (mVar 0) aNil)))) aNil)))) sNil)
    (sSeq (sIf (mTst (mBin (fEq false) (mVar 1) (mC (.int 2)))) (sRet (mTup (aCons (mC (.str "told")) (aCons (mCall F_row_of 0 2 [1, 0] aNil (aCons (mVar 2) (aCons (mVar 0) aNil))) aNil)))) sNil)
    (sRet (mTup (aCons (mC (.str "told")) (aCons (mIf (mTst (mBin (fEq false) (mVar 1) (mC (.int 3)))) (mCall F_truth 0 3 [2, 1, 0] aNil (aCons (mVar 2) (aCons (mVar 3) (aCons (mVar 0) aNil)))) (mCall F_checked_slip 0 2 [1, 0] aNil (aCons (mVar 3) (aCons (mVar 0) aNil)))) aNil)))))))
theorem atry_ok {kk x v d : D} {form : Int} {st' : Sto} (h : corr form kk x v st = .ok d st') : atry [some kk, some (.int form), some x, some v, none] st = .rt (.tup [.str "told", d]) st' := by
  unfold corr at h
  unfold atry
  by_cases f0 : form = 0
  · rw [if_pos f0] at h
    (simp only [bind_exc, toS_exc, seq_exc, seq_rt, x_var, x_c, x_bin, x_un, x_fn, x_bm, x_tst, x_notT, x_andT, x_orT, x_if, x_not, x_and, x_or, x_nil, x_cons, x_star, x_tup, x_lst, x_call, x_sl, x_oN, x_oS, x_lrg, x_trg, x_iseq, x_enum, x_zip, x_yes, x_mk, x_mt, x_fld, x_snil, x_set, x_ret, x_sif, x_drop, x_raise, x_asg, x_par, x_asgH, x_hsub, x_sfld, bind_ok, toS_ok, seq_nx, opt_ok, sel_0, sel_1, sel_2, sel_3, sel_nil, mkL_f, mkL_t, f_int, f_add, f_eqI, f_neI, f_abs, f_i1, f_max2, f_min2, f_neg, List.getElem?_cons_succ, List.getElem?_cons_zero, List.set_cons_succ, List.set_cons_zero, List.length_cons, List.length_nil, List.cons_append, List.nil_append, List.map_cons, List.map_nil, List.zip_cons_cons, List.zip_nil_left, List.zip_nil_right, List.foldl_cons, List.foldl_nil, szl, ite_true, ite_false, Nat.zero_add, Nat.reduceAdd, Nat.reduceSub, ↓reduceIte, and_self, and_true, true_and, Bool.not_true, Bool.not_false, Bool.not_not, Bool.false_eq_true, reduceCtorEq, gN, gT, gsNil, gsCons, hName, hTup, hsNil, hsCons, Option.bind_some, Option.map_some, partO, seqv_tup, seqv_fl, decide_true, decide_false, Nat.reduceLeDiff, x_seq, decide_eq_true f0, h]; try rfl)
  · rw [if_neg f0] at h
    by_cases f1 : form = 1
    · rw [if_pos f1] at h
      (simp only [bind_exc, toS_exc, seq_exc, seq_rt, x_var, x_c, x_bin, x_un, x_fn, x_bm, x_tst, x_notT, x_andT, x_orT, x_if, x_not, x_and, x_or, x_nil, x_cons, x_star, x_tup, x_lst, x_call, x_sl, x_oN, x_oS, x_lrg, x_trg, x_iseq, x_enum, x_zip, x_yes, x_mk, x_mt, x_fld, x_snil, x_set, x_ret, x_sif, x_drop, x_raise, x_asg, x_par, x_asgH, x_hsub, x_sfld, bind_ok, toS_ok, seq_nx, opt_ok, sel_0, sel_1, sel_2, sel_3, sel_nil, mkL_f, mkL_t, f_int, f_add, f_eqI, f_neI, f_abs, f_i1, f_max2, f_min2, f_neg, List.getElem?_cons_succ, List.getElem?_cons_zero, List.set_cons_succ, List.set_cons_zero, List.length_cons, List.length_nil, List.cons_append, List.nil_append, List.map_cons, List.map_nil, List.zip_cons_cons, List.zip_nil_left, List.zip_nil_right, List.foldl_cons, List.foldl_nil, szl, ite_true, ite_false, Nat.zero_add, Nat.reduceAdd, Nat.reduceSub, ↓reduceIte, and_self, and_true, true_and, Bool.not_true, Bool.not_false, Bool.not_not, Bool.false_eq_true, reduceCtorEq, gN, gT, gsNil, gsCons, hName, hTup, hsNil, hsCons, Option.bind_some, Option.map_some, partO, seqv_tup, seqv_fl, decide_true, decide_false, Nat.reduceLeDiff, x_seq, decide_eq_false f0, decide_eq_true f1, h]; try rfl)
    · rw [if_neg f1] at h
      by_cases f2 : form = 2
      · rw [if_pos f2] at h
        (simp only [bind_exc, toS_exc, seq_exc, seq_rt, x_var, x_c, x_bin, x_un, x_fn, x_bm, x_tst, x_notT, x_andT, x_orT, x_if, x_not, x_and, x_or, x_nil, x_cons, x_star, x_tup, x_lst, x_call, x_sl, x_oN, x_oS, x_lrg, x_trg, x_iseq, x_enum, x_zip, x_yes, x_mk, x_mt, x_fld, x_snil, x_set, x_ret, x_sif, x_drop, x_raise, x_asg, x_par, x_asgH, x_hsub, x_sfld, bind_ok, toS_ok, seq_nx, opt_ok, sel_0, sel_1, sel_2, sel_3, sel_nil, mkL_f, mkL_t, f_int, f_add, f_eqI, f_neI, f_abs, f_i1, f_max2, f_min2, f_neg, List.getElem?_cons_succ, List.getElem?_cons_zero, List.set_cons_succ, List.set_cons_zero, List.length_cons, List.length_nil, List.cons_append, List.nil_append, List.map_cons, List.map_nil, List.zip_cons_cons, List.zip_nil_left, List.zip_nil_right, List.foldl_cons, List.foldl_nil, szl, ite_true, ite_false, Nat.zero_add, Nat.reduceAdd, Nat.reduceSub, ↓reduceIte, and_self, and_true, true_and, Bool.not_true, Bool.not_false, Bool.not_not, Bool.false_eq_true, reduceCtorEq, gN, gT, gsNil, gsCons, hName, hTup, hsNil, hsCons, Option.bind_some, Option.map_some, partO, seqv_tup, seqv_fl, decide_true, decide_false, Nat.reduceLeDiff, x_seq, decide_eq_false f0, decide_eq_false f1, decide_eq_true f2, h]; try rfl)
      · rw [if_neg f2] at h
        by_cases f3 : form = 3
        · rw [if_pos f3] at h
          (simp only [bind_exc, toS_exc, seq_exc, seq_rt, x_var, x_c, x_bin, x_un, x_fn, x_bm, x_tst, x_notT, x_andT, x_orT, x_if, x_not, x_and, x_or, x_nil, x_cons, x_star, x_tup, x_lst, x_call, x_sl, x_oN, x_oS, x_lrg, x_trg, x_iseq, x_enum, x_zip, x_yes, x_mk, x_mt, x_fld, x_snil, x_set, x_ret, x_sif, x_drop, x_raise, x_asg, x_par, x_asgH, x_hsub, x_sfld, bind_ok, toS_ok, seq_nx, opt_ok, sel_0, sel_1, sel_2, sel_3, sel_nil, mkL_f, mkL_t, f_int, f_add, f_eqI, f_neI, f_abs, f_i1, f_max2, f_min2, f_neg, List.getElem?_cons_succ, List.getElem?_cons_zero, List.set_cons_succ, List.set_cons_zero, List.length_cons, List.length_nil, List.cons_append, List.nil_append, List.map_cons, List.map_nil, List.zip_cons_cons, List.zip_nil_left, List.zip_nil_right, List.foldl_cons, List.foldl_nil, szl, ite_true, ite_false, Nat.zero_add, Nat.reduceAdd, Nat.reduceSub, ↓reduceIte, and_self, and_true, true_and, Bool.not_true, Bool.not_false, Bool.not_not, Bool.false_eq_true, reduceCtorEq, gN, gT, gsNil, gsCons, hName, hTup, hsNil, hsCons, Option.bind_some, Option.map_some, partO, seqv_tup, seqv_fl, decide_true, decide_false, Nat.reduceLeDiff, x_seq, decide_eq_false f0, decide_eq_false f1, decide_eq_false f2, decide_eq_true f3, h]; try rfl)
        · rw [if_neg f3] at h
          (simp only [bind_exc, toS_exc, seq_exc, seq_rt, x_var, x_c, x_bin, x_un, x_fn, x_bm, x_tst, x_notT, x_andT, x_orT, x_if, x_not, x_and, x_or, x_nil, x_cons, x_star, x_tup, x_lst, x_call, x_sl, x_oN, x_oS, x_lrg, x_trg, x_iseq, x_enum, x_zip, x_yes, x_mk, x_mt, x_fld, x_snil, x_set, x_ret, x_sif, x_drop, x_raise, x_asg, x_par, x_asgH, x_hsub, x_sfld, bind_ok, toS_ok, seq_nx, opt_ok, sel_0, sel_1, sel_2, sel_3, sel_nil, mkL_f, mkL_t, f_int, f_add, f_eqI, f_neI, f_abs, f_i1, f_max2, f_min2, f_neg, List.getElem?_cons_succ, List.getElem?_cons_zero, List.set_cons_succ, List.set_cons_zero, List.length_cons, List.length_nil, List.cons_append, List.nil_append, List.map_cons, List.map_nil, List.zip_cons_cons, List.zip_nil_left, List.zip_nil_right, List.foldl_cons, List.foldl_nil, szl, ite_true, ite_false, Nat.zero_add, Nat.reduceAdd, Nat.reduceSub, ↓reduceIte, and_self, and_true, true_and, Bool.not_true, Bool.not_false, Bool.not_not, Bool.false_eq_true, reduceCtorEq, gN, gT, gsNil, gsCons, hName, hTup, hsNil, hsCons, Option.bind_some, Option.map_some, partO, seqv_tup, seqv_fl, decide_true, decide_false, Nat.reduceLeDiff, x_seq, decide_eq_false f0, decide_eq_false f1, decide_eq_false f2, decide_eq_false f3, h]; try rfl)
theorem atry_exc {kk x v : D} {form : Int} {ex : Str} {i : Option D} {st' : Sto} (h : corr form kk x v st = .exc ex i st') : atry [some kk, some (.int form), some x, some v, none] st = .exc ex i [some kk, some (.int form), some x, some v, none] st' := by
  unfold corr at h
  unfold atry
  by_cases f0 : form = 0
  · rw [if_pos f0] at h
    (simp only [bind_exc, toS_exc, seq_exc, seq_rt, x_var, x_c, x_bin, x_un, x_fn, x_bm, x_tst, x_notT, x_andT, x_orT, x_if, x_not, x_and, x_or, x_nil, x_cons, x_star, x_tup, x_lst, x_call, x_sl, x_oN, x_oS, x_lrg, x_trg, x_iseq, x_enum, x_zip, x_yes, x_mk, x_mt, x_fld, x_snil, x_set, x_ret, x_sif, x_drop, x_raise, x_asg, x_par, x_asgH, x_hsub, x_sfld, bind_ok, toS_ok, seq_nx, opt_ok, sel_0, sel_1, sel_2, sel_3, sel_nil, mkL_f, mkL_t, f_int, f_add, f_eqI, f_neI, f_abs, f_i1, f_max2, f_min2, f_neg, List.getElem?_cons_succ, List.getElem?_cons_zero, List.set_cons_succ, List.set_cons_zero, List.length_cons, List.length_nil, List.cons_append, List.nil_append, List.map_cons, List.map_nil, List.zip_cons_cons, List.zip_nil_left, List.zip_nil_right, List.foldl_cons, List.foldl_nil, szl, ite_true, ite_false, Nat.zero_add, Nat.reduceAdd, Nat.reduceSub, ↓reduceIte, and_self, and_true, true_and, Bool.not_true, Bool.not_false, Bool.not_not, Bool.false_eq_true, reduceCtorEq, gN, gT, gsNil, gsCons, hName, hTup, hsNil, hsCons, Option.bind_some, Option.map_some, partO, seqv_tup, seqv_fl, decide_true, decide_false, Nat.reduceLeDiff, x_seq, decide_eq_true f0, h]; try rfl)
  · rw [if_neg f0] at h
    by_cases f1 : form = 1
    · rw [if_pos f1] at h
      (simp only [bind_exc, toS_exc, seq_exc, seq_rt, x_var, x_c, x_bin, x_un, x_fn, x_bm, x_tst, x_notT, x_andT, x_orT, x_if, x_not, x_and, x_or, x_nil, x_cons, x_star, x_tup, x_lst, x_call, x_sl, x_oN, x_oS, x_lrg, x_trg, x_iseq, x_enum, x_zip, x_yes, x_mk, x_mt, x_fld, x_snil, x_set, x_ret, x_sif, x_drop, x_raise, x_asg, x_par, x_asgH, x_hsub, x_sfld, bind_ok, toS_ok, seq_nx, opt_ok, sel_0, sel_1, sel_2, sel_3, sel_nil, mkL_f, mkL_t, f_int, f_add, f_eqI, f_neI, f_abs, f_i1, f_max2, f_min2, f_neg, List.getElem?_cons_succ, List.getElem?_cons_zero, List.set_cons_succ, List.set_cons_zero, List.length_cons, List.length_nil, List.cons_append, List.nil_append, List.map_cons, List.map_nil, List.zip_cons_cons, List.zip_nil_left, List.zip_nil_right, List.foldl_cons, List.foldl_nil, szl, ite_true, ite_false, Nat.zero_add, Nat.reduceAdd, Nat.reduceSub, ↓reduceIte, and_self, and_true, true_and, Bool.not_true, Bool.not_false, Bool.not_not, Bool.false_eq_true, reduceCtorEq, gN, gT, gsNil, gsCons, hName, hTup, hsNil, hsCons, Option.bind_some, Option.map_some, partO, seqv_tup, seqv_fl, decide_true, decide_false, Nat.reduceLeDiff, x_seq, decide_eq_false f0, decide_eq_true f1, h]; try rfl)
    · rw [if_neg f1] at h
      by_cases f2 : form = 2
      · rw [if_pos f2] at h
        (simp only [bind_exc, toS_exc, seq_exc, seq_rt, x_var, x_c, x_bin, x_un, x_fn, x_bm, x_tst, x_notT, x_andT, x_orT, x_if, x_not, x_and, x_or, x_nil, x_cons, x_star, x_tup, x_lst, x_call, x_sl, x_oN, x_oS, x_lrg, x_trg, x_iseq, x_enum, x_zip, x_yes, x_mk, x_mt, x_fld, x_snil, x_set, x_ret, x_sif, x_drop, x_raise, x_asg, x_par, x_asgH, x_hsub, x_sfld, bind_ok, toS_ok, seq_nx, opt_ok, sel_0, sel_1, sel_2, sel_3, sel_nil, mkL_f, mkL_t, f_int, f_add, f_eqI, f_neI, f_abs, f_i1, f_max2, f_min2, f_neg, List.getElem?_cons_succ, List.getElem?_cons_zero, List.set_cons_succ, List.set_cons_zero, List.length_cons, List.length_nil, List.cons_append, List.nil_append, List.map_cons, List.map_nil, List.zip_cons_cons, List.zip_nil_left, List.zip_nil_right, List.foldl_cons, List.foldl_nil, szl, ite_true, ite_false, Nat.zero_add, Nat.reduceAdd, Nat.reduceSub, ↓reduceIte, and_self, and_true, true_and, Bool.not_true, Bool.not_false, Bool.not_not, Bool.false_eq_true, reduceCtorEq, gN, gT, gsNil, gsCons, hName, hTup, hsNil, hsCons, Option.bind_some, Option.map_some, partO, seqv_tup, seqv_fl, decide_true, decide_false, Nat.reduceLeDiff, x_seq, decide_eq_false f0, decide_eq_false f1, decide_eq_true f2, h]; try rfl)
      · rw [if_neg f2] at h
        by_cases f3 : form = 3
        · rw [if_pos f3] at h
          (simp only [bind_exc, toS_exc, seq_exc, seq_rt, x_var, x_c, x_bin, x_un, x_fn, x_bm, x_tst, x_notT, x_andT, x_orT, x_if, x_not, x_and, x_or, x_nil, x_cons, x_star, x_tup, x_lst, x_call, x_sl, x_oN, x_oS, x_lrg, x_trg, x_iseq, x_enum, x_zip, x_yes, x_mk, x_mt, x_fld, x_snil, x_set, x_ret, x_sif, x_drop, x_raise, x_asg, x_par, x_asgH, x_hsub, x_sfld, bind_ok, toS_ok, seq_nx, opt_ok, sel_0, sel_1, sel_2, sel_3, sel_nil, mkL_f, mkL_t, f_int, f_add, f_eqI, f_neI, f_abs, f_i1, f_max2, f_min2, f_neg, List.getElem?_cons_succ, List.getElem?_cons_zero, List.set_cons_succ, List.set_cons_zero, List.length_cons, List.length_nil, List.cons_append, List.nil_append, List.map_cons, List.map_nil, List.zip_cons_cons, List.zip_nil_left, List.zip_nil_right, List.foldl_cons, List.foldl_nil, szl, ite_true, ite_false, Nat.zero_add, Nat.reduceAdd, Nat.reduceSub, ↓reduceIte, and_self, and_true, true_and, Bool.not_true, Bool.not_false, Bool.not_not, Bool.false_eq_true, reduceCtorEq, gN, gT, gsNil, gsCons, hName, hTup, hsNil, hsCons, Option.bind_some, Option.map_some, partO, seqv_tup, seqv_fl, decide_true, decide_false, Nat.reduceLeDiff, x_seq, decide_eq_false f0, decide_eq_false f1, decide_eq_false f2, decide_eq_true f3, h]; try rfl)
        · rw [if_neg f3] at h
          (simp only [bind_exc, toS_exc, seq_exc, seq_rt, x_var, x_c, x_bin, x_un, x_fn, x_bm, x_tst, x_notT, x_andT, x_orT, x_if, x_not, x_and, x_or, x_nil, x_cons, x_star, x_tup, x_lst, x_call, x_sl, x_oN, x_oS, x_lrg, x_trg, x_iseq, x_enum, x_zip, x_yes, x_mk, x_mt, x_fld, x_snil, x_set, x_ret, x_sif, x_drop, x_raise, x_asg, x_par, x_asgH, x_hsub, x_sfld, bind_ok, toS_ok, seq_nx, opt_ok, sel_0, sel_1, sel_2, sel_3, sel_nil, mkL_f, mkL_t, f_int, f_add, f_eqI, f_neI, f_abs, f_i1, f_max2, f_min2, f_neg, List.getElem?_cons_succ, List.getElem?_cons_zero, List.set_cons_succ, List.set_cons_zero, List.length_cons, List.length_nil, List.cons_append, List.nil_append, List.map_cons, List.map_nil, List.zip_cons_cons, List.zip_nil_left, List.zip_nil_right, List.foldl_cons, List.foldl_nil, szl, ite_true, ite_false, Nat.zero_add, Nat.reduceAdd, Nat.reduceSub, ↓reduceIte, and_self, and_true, true_and, Bool.not_true, Bool.not_false, Bool.not_not, Bool.false_eq_true, reduceCtorEq, gN, gT, gsNil, gsCons, hName, hTup, hsNil, hsCons, Option.bind_some, Option.map_some, partO, seqv_tup, seqv_fl, decide_true, decide_false, Nat.reduceLeDiff, x_seq, decide_eq_false f0, decide_eq_false f1, decide_eq_false f2, decide_eq_false f3, h]; try rfl)
theorem asked_told {kk x v d : D} {form : Int} (h : corr form kk x v st = .ok d st) : F__law_asked [kk, .int form, x, v] st = .ok (.tup [.str "told", d]) st := by
  refine fn_rt (d := .tup [.str "told", d]) (st' := st) [some kk, some (.int form), some x, some v, none] rfl rfl ?_ (gcD_same rfl)
  show sTry subT atry _ _ _ = _
  unfold sTry
  rw [atry_ok h]
theorem asked_slip {kk x v : D} {form : Int} {i : Int} (h : corr form kk x v st = .exc "InvalidSlip" (some (.int i)) st) : F__law_asked [kk, .int form, x, v] st = .ok (.tup [.str "slip", .int i]) st := by
  refine fn_rt (d := .tup [.str "slip", .int i]) (st' := st) [some kk, some (.int form), some x, some v, none] rfl rfl ?_ (gcD_same rfl)
  show sTry subT atry _ _ _ = _
  unfold sTry
  rw [atry_exc h]
  have s1 : subT "InvalidSlip" "InvalidSlip" = some true := by decide
  show hdl subT _ "InvalidSlip" _ _ _ = _
  unfold hdl
  rw [s1]
  (simp only [bind_exc, toS_exc, seq_exc, seq_rt, x_var, x_c, x_bin, x_un, x_fn, x_bm, x_tst, x_notT, x_andT, x_orT, x_if, x_not, x_and, x_or, x_nil, x_cons, x_star, x_tup, x_lst, x_call, x_sl, x_oN, x_oS, x_lrg, x_trg, x_iseq, x_enum, x_zip, x_yes, x_mk, x_mt, x_fld, x_snil, x_set, x_ret, x_sif, x_drop, x_raise, x_asg, x_par, x_asgH, x_hsub, x_sfld, bind_ok, toS_ok, seq_nx, opt_ok, sel_0, sel_1, sel_2, sel_3, sel_nil, mkL_f, mkL_t, f_int, f_add, f_eqI, f_neI, f_abs, f_i1, f_max2, f_min2, f_neg, List.getElem?_cons_succ, List.getElem?_cons_zero, List.set_cons_succ, List.set_cons_zero, List.length_cons, List.length_nil, List.cons_append, List.nil_append, List.map_cons, List.map_nil, List.zip_cons_cons, List.zip_nil_left, List.zip_nil_right, List.foldl_cons, List.foldl_nil, szl, ite_true, ite_false, Nat.zero_add, Nat.reduceAdd, Nat.reduceSub, ↓reduceIte, and_self, and_true, true_and, Bool.not_true, Bool.not_false, Bool.not_not, Bool.false_eq_true, reduceCtorEq, gN, gT, gsNil, gsCons, hName, hTup, hsNil, hsCons, Option.bind_some, Option.map_some, partO, seqv_tup, seqv_fl, decide_true, decide_false, Nat.reduceLeDiff, unS]; try rfl)
theorem asked_refused {kk x v : D} {form : Int} {i : Int} (h : corr form kk x v st = .exc "Refused" (some (.int i)) st) : F__law_asked [kk, .int form, x, v] st = .ok (.tup [.str "refused", .int i]) st := by
  refine fn_rt (d := .tup [.str "refused", .int i]) (st' := st) [some kk, some (.int form), some x, some v, none] rfl rfl ?_ (gcD_same rfl)
  show sTry subT atry _ _ _ = _
  unfold sTry
  rw [atry_exc h]
  have s1 : subT "Refused" "InvalidSlip" = some false := by decide
  have s2 : subT "Refused" "Refused" = some true := by decide
  show hdl subT _ "Refused" _ _ _ = _
  unfold hdl
  rw [s1]
  show hdl subT _ "Refused" _ _ _ = _
  unfold hdl
  rw [s2]
  (simp only [bind_exc, toS_exc, seq_exc, seq_rt, x_var, x_c, x_bin, x_un, x_fn, x_bm, x_tst, x_notT, x_andT, x_orT, x_if, x_not, x_and, x_or, x_nil, x_cons, x_star, x_tup, x_lst, x_call, x_sl, x_oN, x_oS, x_lrg, x_trg, x_iseq, x_enum, x_zip, x_yes, x_mk, x_mt, x_fld, x_snil, x_set, x_ret, x_sif, x_drop, x_raise, x_asg, x_par, x_asgH, x_hsub, x_sfld, bind_ok, toS_ok, seq_nx, opt_ok, sel_0, sel_1, sel_2, sel_3, sel_nil, mkL_f, mkL_t, f_int, f_add, f_eqI, f_neI, f_abs, f_i1, f_max2, f_min2, f_neg, List.getElem?_cons_succ, List.getElem?_cons_zero, List.set_cons_succ, List.set_cons_zero, List.length_cons, List.length_nil, List.cons_append, List.nil_append, List.map_cons, List.map_nil, List.zip_cons_cons, List.zip_nil_left, List.zip_nil_right, List.foldl_cons, List.foldl_nil, szl, ite_true, ite_false, Nat.zero_add, Nat.reduceAdd, Nat.reduceSub, ↓reduceIte, and_self, and_true, true_and, Bool.not_true, Bool.not_false, Bool.not_not, Bool.false_eq_true, reduceCtorEq, gN, gT, gsNil, gsCons, hName, hTup, hsNil, hsCons, Option.bind_some, Option.map_some, partO, seqv_tup, seqv_fl, decide_true, decide_false, Nat.reduceLeDiff, unS]; try rfl)
theorem asked_bad {v : D} {form : Int} {i : Int} (h : F_checked_heap [.ref k, x] st = .exc "InvalidSlip" (some (.int i)) st) (hf : form = 0 ∨ form = 1 ∨ form = 2) : F__law_asked [.ref k, .int form, x, v] st = .ok (.tup [.str "slip", .int i]) st := by
  refine asked_slip ?_
  unfold corr
  rcases hf with rfl | rfl | rfl
  · rw [if_pos rfl]; exact h
  · rw [if_neg (by decide), if_pos rfl]; exact put_exc h
  · rw [if_neg (by decide), if_neg (by decide), if_pos rfl]; exact row_of_exc h (gcX_same rfl)
/-! what is since and until, of a heap that is none -/
theorem parts_bad {t : D} {i : Int} (ha : F_checked_heap [.ref k, x] (st ++ [.lst []]) = .exc "InvalidSlip" (some (.int i)) (st ++ [.lst []])) (hb : F_checked_heap [.ref k, x] (st ++ [.lst [.tup [.str "slip", .int i]]]) = .exc "InvalidSlip" (some (.int i)) (st ++ [.lst [.tup [.str "slip", .int i]]])) : F__law_parts_at [.ref k, x, t] st = .ok (.ref st.length) (st ++ [.lst [.tup [.str "slip", .int i], .tup [.str "slip", .int i]]]) := by
  refine fn_rt (d := .ref st.length) (st' := st ++ [.lst [.tup [.str "slip", .int i], .tup [.str "slip", .int i]]]) [some (.ref k), some x, some t, none, none, none] rfl rfl ?_ (gcD_keep (by simp only [noRef, decide_eq_false_iff_not]; omega))
  have body : ∀ (f : Int) (l : List D), l.length < 10 → F_checked_heap [.ref k, x] (st ++ [.lst l]) = .exc "InvalidSlip" (some (.int i)) (st ++ [.lst l]) → sTry subT (sDrop (mBM fAppend (mVar 3) (aCons (mTup (aCons (mC (.str "told")) (aCons (mIf (mTst (mBin (fEq false) (mVar 4) (mC (.int 0)))) (mCall F_since 3 0 [0, 1, 2] (aCons (mVar 0) (aCons (mVar 1) (aCons (mVar 2) aNil))) aNil) (mCall F_until 3 0 [0, 1, 2] (aCons (mVar 0) (aCons (mVar 1) (aCons (mVar 2) aNil))) aNil)) aNil))) aNil))) (("InvalidSlip", some 5, (sDrop (mBM fAppend (mVar 3) (aCons (mTup (aCons (mC (.str "slip")) (aCons (mVar 5) aNil))) aNil)))) :: []) [some (.ref k), some x, some t, some (.ref st.length), some (.int f), none] (st ++ [.lst l]) = .nx [some (.ref k), some x, some t, some (.ref st.length), some (.int f), none] (st ++ [.lst (l ++ [.tup [.str "slip", .int i]])]) := by
    intro f l hl h
    have g0 : (st ++ [MO.lst l])[st.length]? = some (.lst l) := at_end
    have b : sDrop (mBM fAppend (mVar 3) (aCons (mTup (aCons (mC (.str "told")) (aCons (mIf (mTst (mBin (fEq false) (mVar 4) (mC (.int 0)))) (mCall F_since 3 0 [0, 1, 2] (aCons (mVar 0) (aCons (mVar 1) (aCons (mVar 2) aNil))) aNil) (mCall F_until 3 0 [0, 1, 2] (aCons (mVar 0) (aCons (mVar 1) (aCons (mVar 2) aNil))) aNil)) aNil))) aNil)) [some (.ref k), some x, some t, some (.ref st.length), some (.int f), none] (st ++ [.lst l]) = .exc "InvalidSlip" (some (.int i)) [some (.ref k), some x, some t, some (.ref st.length), some (.int f), none] (st ++ [.lst l]) := by
      have e1 := since_exc (t := t) h (gcX_same rfl)
      have e2 := until_exc (t := t) h (gcX_same rfl)
      by_cases f0 : f = 0
      · (simp only [bind_exc, toS_exc, seq_exc, seq_rt, x_var, x_c, x_bin, x_un, x_fn, x_bm, x_tst, x_notT, x_andT, x_orT, x_if, x_not, x_and, x_or, x_nil, x_cons, x_star, x_tup, x_lst, x_call, x_sl, x_oN, x_oS, x_lrg, x_trg, x_iseq, x_enum, x_zip, x_yes, x_mk, x_mt, x_fld, x_snil, x_set, x_ret, x_sif, x_drop, x_raise, x_asg, x_par, x_asgH, x_hsub, x_sfld, bind_ok, toS_ok, seq_nx, opt_ok, sel_0, sel_1, sel_2, sel_3, sel_nil, mkL_f, mkL_t, f_int, f_add, f_eqI, f_neI, f_abs, f_i1, f_max2, f_min2, f_neg, List.getElem?_cons_succ, List.getElem?_cons_zero, List.set_cons_succ, List.set_cons_zero, List.length_cons, List.length_nil, List.cons_append, List.nil_append, List.map_cons, List.map_nil, List.zip_cons_cons, List.zip_nil_left, List.zip_nil_right, List.foldl_cons, List.foldl_nil, szl, ite_true, ite_false, Nat.zero_add, Nat.reduceAdd, Nat.reduceSub, ↓reduceIte, and_self, and_true, true_and, Bool.not_true, Bool.not_false, Bool.not_not, Bool.false_eq_true, reduceCtorEq, gN, gT, gsNil, gsCons, hName, hTup, hsNil, hsCons, Option.bind_some, Option.map_some, partO, seqv_tup, seqv_fl, decide_true, decide_false, Nat.reduceLeDiff, isL_ref g0, decide_eq_true f0, e1]; try rfl)
      · (simp only [bind_exc, toS_exc, seq_exc, seq_rt, x_var, x_c, x_bin, x_un, x_fn, x_bm, x_tst, x_notT, x_andT, x_orT, x_if, x_not, x_and, x_or, x_nil, x_cons, x_star, x_tup, x_lst, x_call, x_sl, x_oN, x_oS, x_lrg, x_trg, x_iseq, x_enum, x_zip, x_yes, x_mk, x_mt, x_fld, x_snil, x_set, x_ret, x_sif, x_drop, x_raise, x_asg, x_par, x_asgH, x_hsub, x_sfld, bind_ok, toS_ok, seq_nx, opt_ok, sel_0, sel_1, sel_2, sel_3, sel_nil, mkL_f, mkL_t, f_int, f_add, f_eqI, f_neI, f_abs, f_i1, f_max2, f_min2, f_neg, List.getElem?_cons_succ, List.getElem?_cons_zero, List.set_cons_succ, List.set_cons_zero, List.length_cons, List.length_nil, List.cons_append, List.nil_append, List.map_cons, List.map_nil, List.zip_cons_cons, List.zip_nil_left, List.zip_nil_right, List.foldl_cons, List.foldl_nil, szl, ite_true, ite_false, Nat.zero_add, Nat.reduceAdd, Nat.reduceSub, ↓reduceIte, and_self, and_true, true_and, Bool.not_true, Bool.not_false, Bool.not_not, Bool.false_eq_true, reduceCtorEq, gN, gT, gsNil, gsCons, hName, hTup, hsNil, hsCons, Option.bind_some, Option.map_some, partO, seqv_tup, seqv_fl, decide_true, decide_false, Nat.reduceLeDiff, isL_ref g0, decide_eq_false f0, e2]; try rfl)
    unfold sTry
    rw [b]
    have s1 : subT "InvalidSlip" "InvalidSlip" = some true := by decide
    show hdl subT _ "InvalidSlip" _ _ _ = _
    unfold hdl
    rw [s1]
    have ap := app_of (st := st ++ [.lst l]) (x := .tup [.str "slip", .int i]) g0 (by rw [sizeV]; omega)
    rw [set_end] at ap
    (simp only [bind_exc, toS_exc, seq_exc, seq_rt, x_var, x_c, x_bin, x_un, x_fn, x_bm, x_tst, x_notT, x_andT, x_orT, x_if, x_not, x_and, x_or, x_nil, x_cons, x_star, x_tup, x_lst, x_call, x_sl, x_oN, x_oS, x_lrg, x_trg, x_iseq, x_enum, x_zip, x_yes, x_mk, x_mt, x_fld, x_snil, x_set, x_ret, x_sif, x_drop, x_raise, x_asg, x_par, x_asgH, x_hsub, x_sfld, bind_ok, toS_ok, seq_nx, opt_ok, sel_0, sel_1, sel_2, sel_3, sel_nil, mkL_f, mkL_t, f_int, f_add, f_eqI, f_neI, f_abs, f_i1, f_max2, f_min2, f_neg, List.getElem?_cons_succ, List.getElem?_cons_zero, List.set_cons_succ, List.set_cons_zero, List.length_cons, List.length_nil, List.cons_append, List.nil_append, List.map_cons, List.map_nil, List.zip_cons_cons, List.zip_nil_left, List.zip_nil_right, List.foldl_cons, List.foldl_nil, szl, ite_true, ite_false, Nat.zero_add, Nat.reduceAdd, Nat.reduceSub, ↓reduceIte, and_self, and_true, true_and, Bool.not_true, Bool.not_false, Bool.not_not, Bool.false_eq_true, reduceCtorEq, gN, gT, gsNil, gsCons, hName, hTup, hsNil, hsCons, Option.bind_some, Option.map_some, partO, seqv_tup, seqv_fl, decide_true, decide_false, Nat.reduceLeDiff, unS, isL_ref g0, ap]; try rfl)
  unfold b__law_parts_at
  rw [x_seq]
  have q1 : sSet 3 (mLst true aNil) [some (.ref k), some x, some t, none, none, none] st = .nx [some (.ref k), some x, some t, some (.ref st.length), none, none] (st ++ [.lst []]) := by (simp only [bind_exc, toS_exc, seq_exc, seq_rt, x_var, x_c, x_bin, x_un, x_fn, x_bm, x_tst, x_notT, x_andT, x_orT, x_if, x_not, x_and, x_or, x_nil, x_cons, x_star, x_tup, x_lst, x_call, x_sl, x_oN, x_oS, x_lrg, x_trg, x_iseq, x_enum, x_zip, x_yes, x_mk, x_mt, x_fld, x_snil, x_set, x_ret, x_sif, x_drop, x_raise, x_asg, x_par, x_asgH, x_hsub, x_sfld, bind_ok, toS_ok, seq_nx, opt_ok, sel_0, sel_1, sel_2, sel_3, sel_nil, mkL_f, mkL_t, f_int, f_add, f_eqI, f_neI, f_abs, f_i1, f_max2, f_min2, f_neg, List.getElem?_cons_succ, List.getElem?_cons_zero, List.set_cons_succ, List.set_cons_zero, List.length_cons, List.length_nil, List.cons_append, List.nil_append, List.map_cons, List.map_nil, List.zip_cons_cons, List.zip_nil_left, List.zip_nil_right, List.foldl_cons, List.foldl_nil, szl, ite_true, ite_false, Nat.zero_add, Nat.reduceAdd, Nat.reduceSub, ↓reduceIte, and_self, and_true, true_and, Bool.not_true, Bool.not_false, Bool.not_not, Bool.false_eq_true, reduceCtorEq, gN, gT, gsNil, gsCons, hName, hTup, hsNil, hsCons, Option.bind_some, Option.map_some, partO, seqv_tup, seqv_fl, decide_true, decide_false, Nat.reduceLeDiff]; try rfl)
  rw [q1, seq_nx, x_seq, x_for, rg1_of (j := 2) (st1 := st ++ [.lst []]) rfl (by omega) (by omega), toS_ok]
  have e2 : (List.range (2 : Int).toNat).map (fun i => D.int (0 + (i : Nat))) = [.int 0, .int 1] := rfl
  simp only [e2]
  rw [fRun_nx (gd := none) True.intro rfl (body 0 [] (by decide) ha), List.nil_append, fRun_nx (gd := none) True.intro rfl (body 1 _ (by show (1 : Nat) < 10; decide) hb), fRun_end (gd := none) True.intro, seq_nx]
  (simp only [bind_exc, toS_exc, seq_exc, seq_rt, x_var, x_c, x_bin, x_un, x_fn, x_bm, x_tst, x_notT, x_andT, x_orT, x_if, x_not, x_and, x_or, x_nil, x_cons, x_star, x_tup, x_lst, x_call, x_sl, x_oN, x_oS, x_lrg, x_trg, x_iseq, x_enum, x_zip, x_yes, x_mk, x_mt, x_fld, x_snil, x_set, x_ret, x_sif, x_drop, x_raise, x_asg, x_par, x_asgH, x_hsub, x_sfld, bind_ok, toS_ok, seq_nx, opt_ok, sel_0, sel_1, sel_2, sel_3, sel_nil, mkL_f, mkL_t, f_int, f_add, f_eqI, f_neI, f_abs, f_i1, f_max2, f_min2, f_neg, List.getElem?_cons_succ, List.getElem?_cons_zero, List.set_cons_succ, List.set_cons_zero, List.length_cons, List.length_nil, List.cons_append, List.nil_append, List.map_cons, List.map_nil, List.zip_cons_cons, List.zip_nil_left, List.zip_nil_right, List.foldl_cons, List.foldl_nil, szl, ite_true, ite_false, Nat.zero_add, Nat.reduceAdd, Nat.reduceSub, ↓reduceIte, and_self, and_true, true_and, Bool.not_true, Bool.not_false, Bool.not_not, Bool.false_eq_true, reduceCtorEq, gN, gT, gsNil, gsCons, hName, hTup, hsNil, hsCons, Option.bind_some, Option.map_some, partO, seqv_tup, seqv_fl, decide_true, decide_false, Nat.reduceLeDiff]; try rfl)
theorem bad_ok {rest : Sto} (h : Dr rest st) : ∃ d st', F__law_bad_slip [.ref 1, .int (c : Nat)] st = .ok d st' ∧ Dr rest st' ∧ slipB c d = false ∧ ∀ st, Lk st d := by
  obtain ⟨d, st', h1, h2, h3⟩ := of_ok (x := .fl [.fl [.int 0, .int 0], .tup [.int 0], .tup [.int 0, .int 0, .int 0], .non, .tup [.int (-1), .int 0], .tup [.bl true, .int 0], .tup [.int 0, .int c], .tup [.int 0, .bl true], .tup [.str "0", .int 0], .tup [.int 0, .non]]) h (fun _ _ => rfl) (by simp) (by simp)
  refine ⟨d, st', ?_, h3, ?_, ?_⟩
  · refine fn_rt (d := d) (st' := st') [some (.ref 1), some (.int (c : Nat)), none] rfl rfl ?_ (gcD_same (by rw [h3.len, h.len]))
    unfold b__law_bad_slip
    rw [← e_of] at h1
    (simp only [bind_exc, toS_exc, seq_exc, seq_rt, x_var, x_c, x_bin, x_un, x_fn, x_bm, x_tst, x_notT, x_andT, x_orT, x_if, x_not, x_and, x_or, x_nil, x_cons, x_star, x_tup, x_lst, x_call, x_sl, x_oN, x_oS, x_lrg, x_trg, x_iseq, x_enum, x_zip, x_yes, x_mk, x_mt, x_fld, x_snil, x_set, x_ret, x_sif, x_drop, x_raise, x_asg, x_par, x_asgH, x_hsub, x_sfld, bind_ok, toS_ok, seq_nx, opt_ok, sel_0, sel_1, sel_2, sel_3, sel_nil, mkL_f, mkL_t, f_int, f_add, f_eqI, f_neI, f_abs, f_i1, f_max2, f_min2, f_neg, List.getElem?_cons_succ, List.getElem?_cons_zero, List.set_cons_succ, List.set_cons_zero, List.length_cons, List.length_nil, List.cons_append, List.nil_append, List.map_cons, List.map_nil, List.zip_cons_cons, List.zip_nil_left, List.zip_nil_right, List.foldl_cons, List.foldl_nil, szl, ite_true, ite_false, Nat.zero_add, Nat.reduceAdd, Nat.reduceSub, ↓reduceIte, and_self, and_true, true_and, Bool.not_true, Bool.not_false, Bool.not_not, Bool.false_eq_true, reduceCtorEq, gN, gT, gsNil, gsCons, hName, hTup, hsNil, hsCons, Option.bind_some, Option.map_some, partO, seqv_tup, seqv_fl, decide_true, decide_false, Nat.reduceLeDiff, x_seq, h1]; try rfl)
  · simp only [List.mem_cons, List.not_mem_nil, or_false] at h2
    rcases h2 with rfl | rfl | rfl | rfl | rfl | rfl | rfl | rfl | rfl | rfl
    all_goals first | rfl | (simp only [slipB, numD, ixD, decide_eq_false (show ¬ (c : Int) < c by omega), Bool.and_false]; done) | simp [slipB, numD, ixD]
  · simp only [List.mem_cons, List.not_mem_nil, or_false] at h2
    rcases h2 with rfl | rfl | rfl | rfl | rfl | rfl | rfl | rfl | rfl | rfl
    all_goals
      intro st
      refine ⟨⟨_, rfl⟩, fun a b e => ?_⟩
      first
        | (cases e; exact ⟨⟨_, rfl⟩, _, rfl⟩)
        | cases e
end
end K03

namespace K03
open PySem L2 Mi SrtO
section
variable {st : Sto} {c : Nat} {ss : List (List Int)} {hs gs : List (Int × Int)} {more : Sto} {x : D}
def Rk (c : Nat) (ss : List (List Int)) (gs : List D) (more : Sto) : Sto := machO c ss 3 :: .dk [] :: .lst [] :: .lst gs :: more
theorem rk_mach {gs : List D} (h : Dr (Rk c ss gs more) st) : st[2]? = some (machO c ss 3) := h.get (n := 0)
theorem rk_given {gs : List D} (h : Dr (Rk c ss gs more) st) : st[5]? = some (.lst gs) := h.get (n := 3)
theorem rk_seq (h : Dr (Rk c ss (gs.map slipD) more) st) (hx : x = .ref 5 ∨ x = .tup (gs.map slipD)) : seqv st x = some (gs.map slipD) := by
  rcases hx with rfl | rfl
  · exact seqv_ref (rk_given h)
  · rfl
theorem rk_wf {gs : List D} (hg : ∀ k, noRefs k gs = true) (h : Dr (Rk c ss gs more) st) (hm : wf st.length more) : wf st.length st := by
  have hl := h.len
  have h4 : (Rk c ss gs more).length = more.length + 4 := rfl
  refine h.wf (by omega) ?_
  unfold wf Rk at *
  simp only [List.all_cons, machO, noRefO, noRefs, noRefK, hg, noRef, Bool.and_true, Bool.true_and, Bool.and_eq_true, decide_eq_true_eq]
  refine ⟨⟨?_, by omega⟩, hm⟩
  rw [noRefs_all, List.all_map]
  refine List.all_eq_true.mpr fun r _ => ?_
  simp only [Function.comp, noRef, noRefs_ints]
structure Hs (c : Nat) (hs gs : List (Int × Int)) : Prop where
  perm : gs.Perm hs
  asc : hs.Pairwise fun p q => p.1 < q.1
  ok : ∀ p ∈ hs, 0 ≤ p.1 ∧ 0 ≤ p.2 ∧ p.2 < c
  len : hs.length < 200
  lt : ∀ p ∈ hs, p.1 < 1000
  c5 : c ≤ 5
  c0 : 0 < c
theorem Hs.sm (H : Hs c hs gs) : ∀ p ∈ hs, p.1.natAbs < 10 ^ 18 ∧ p.2.natAbs < 10 ^ 18 := fun p hp => by
  have := H.ok p hp
  have := H.lt p hp
  have := H.c5
  omega
theorem Hs.hp (H : Hs c hs gs) (h : Dr (Rk c ss (gs.map slipD) more) st) (hm : wf st.length more) (hx : x = .ref 5 ∨ x = .tup (gs.map slipD)) : Hp st 2 c x hs gs :=
  ⟨H.perm, rk_seq h hx, H.asc, H.ok, by have := H.len; omega, rk_wf (fun _ => noRefs_slips) h hm⟩
/-- the names of the law -/
abbrev En1 (scr : D) (c : Nat) (ss : List (List Int)) (n : Nat) (hs : List (Int × Int)) (x : D) (a9 a10 a11 a12 a13 a14 a15 a16 a17 a18 a19 : Option D) : En :=
  [some scr, some (.ref 1), some (.int c), some (.fl (rowsD ss)), some (.int n), some (.ref 2), some (.tup (hs.map slipD)), some (.ref 5), some x, a9, a10, a11, a12, a13, a14, a15, a16, a17, a18, a19, none, none]
theorem slips_ne {st : Sto} {neg : Bool} : fEq neg (.tup (hs.map slipD)) (.tup []) st = .ok (.bl (if neg = true then !decide (hs = []) else decide (hs = []))) st := by
  rw [tup_nil PD.slips (by omega)]
  have : (hs.map slipD = []) ↔ hs = [] := List.map_eq_nil_iff
  by_cases z : hs = []
  · rw [decide_eq_true z, decide_eq_true (this.mpr z)]
  · rw [decide_eq_false z, decide_eq_false (fun y => z (this.mp y))]
/-! shown -/
def Rp (d : D) : Prop := ∃ s, PyData.strOk s = true ∧ ∀ st, fRepr [d] st = .ok (.str s) st
def Sd (d : D) : Prop := SD 4 100000 d
theorem Sd.slips (h : ∀ p ∈ hs, p.1.natAbs < 10 ^ 18 ∧ p.2.natAbs < 10 ^ 18) (hl : hs.length ≤ 1000) : Sd (.tup (hs.map slipD)) := (SD.slips h hl).up (by omega) (by omega)
theorem Sd.int {i : Int} (h : i.natAbs < 10 ^ 18) : Sd (.int i) := (SD.int h).up (by omega) (by omega)
theorem Sd.row {ns : List Int} (h : ∀ i ∈ ns, i.natAbs < 10 ^ 18) (hl : ns.length ≤ 1000) : Sd (.tup (ns.map .int)) := (SD.tup (k := 0) (n := 19) (c := 1000) (fun d hd => by
  obtain ⟨i, hi, rfl⟩ := List.mem_map.mp hd
  exact SD.int (h i hi)) (by rw [List.length_map]; exact hl)).up (by omega) (by omega)
theorem Sd.slip {p : Int × Int} (h1 : p.1.natAbs < 10 ^ 18) (h2 : p.2.natAbs < 10 ^ 18) : Sd (slipD p) := (SD.slip h1 h2).up (by omega) (by omega)
/-- an answer -/
def Sa (d : D) : Prop := SD 5 200007 d
theorem Sa.told {d : D} (h : Sd d) : Sa (.tup [.str "told", d]) := SD.pair told_sd h (by decide)
theorem Sa.slip {d : D} (h : Sd d) : Sa (.tup [.str "slip", d]) := SD.pair slip_sd h (by decide)
theorem Sa.refused {d : D} (h : Sd d) : Sa (.tup [.str "refused", d]) := SD.pair refused_sd h (by decide)
theorem Rp.one {d : D} {ds : List D} (e : d = .tup ds) (h : Sa d) : Rp d := by subst e; exact repr_tup h (by decide) (by decide)
theorem Rp.told {d : D} (h : Sd d) : Rp (.tup [.str "told", d]) := Rp.one rfl (Sa.told h)
theorem Rp.slip {d : D} (h : Sd d) : Rp (.tup [.str "slip", d]) := Rp.one rfl (Sa.slip h)
theorem Rp.tup {ds : List D} (h : Sd (.tup ds)) : Rp (.tup ds) := repr_tup h (by decide) (by decide)
theorem Rp.two {a b : D} (ha : Sa a) (hb : Sa b) : Rp (.fl [a, b]) := repr_fl (SD.fl (c := 2) (k := 5) (n := 200007) (fun d hd => by
  simp only [List.mem_cons, List.not_mem_nil, or_false] at hd
  rcases hd with rfl | rfl
  · exact ha
  · exact hb) (Nat.le_refl 2)) (by decide) (by decide)
theorem Rp.four {a b : D} (ha : Sa a) (hb : Sa b) : Rp (.fl [a, a, b, b]) := repr_fl (SD.fl (c := 4) (k := 5) (n := 200007) (fun d hd => by
  simp only [List.mem_cons, List.not_mem_nil, or_false] at hd
  rcases hd with rfl | rfl | rfl | rfl
  · exact ha
  · exact ha
  · exact hb
  · exact hb) (Nat.le_refl 4)) (by decide) (by decide)
/-- the beginning -/
theorem start_ok {ns : List Int} (hn : ns.length ≤ 63) {b : SM} {R : D → Sto → Prop}
    (k : ∀ c ss n hs gs x st, Mach c ss → ss.length ≤ 10 → Hs c hs gs → (x = .ref 5 ∨ x = .tup (gs.map slipD)) → Dr (Rk c ss (gs.map slipD) []) st → SP (b (En1 (.rl (ns.map .int)) c ss n hs x none none none none none none none none none none none) st) (fun _ _ => False) R) :
    SP ((sSeq (sSet 1 (mCall F__law_draw 2 0 [0, 1] (aCons (mVar 0) (aCons (mC (.int 3)) aNil)) aNil))
    (sSeq (sAsg (gT 2 (gsCons (gN 2) (gsCons (gN 3) gsNil))) (mCall F__law_wide 2 0 [0, 1] (aCons (mVar 1) (aCons (mC (.int 10)) aNil)) aNil))
    (sSeq (sSet 4 (mIf (mTst (mBin fGt (mCall F__law_any 2 0 [0, 1] (aCons (mVar 1) (aCons (mC (.int 8)) aNil)) aNil) (mC (.int 0)))) (mCall F__law_any 2 0 [0, 1] (aCons (mVar 1) (aCons (mC (.int 13)) aNil)) aNil) (mBin (fAdd false) (mC (.int 150)) (mCall F__law_any 2 0 [0, 1] (aCons (mVar 1) (aCons (mC (.int 50)) aNil)) aNil))))
    (sSeq (sPar [5, 6] (aCons (mMake "Machine" F_Machine___init__ 2 0 [0, 1, 2] (aCons (mVar 2) (aCons (mVar 3) aNil)) aNil) (aCons (mCall F__law_heap 3 0 [0, 1, 2] (aCons (mVar 1) (aCons (mVar 2) (aCons (mVar 4) aNil))) aNil) aNil)))
    (sSeq (sSet 7 (mCall F__law_mixed 2 0 [0, 1] (aCons (mVar 1) (aCons (mVar 6) aNil)) aNil))
    (sSeq (sSet 8 (mIf (mTst (mBin (fEq false) (mCall F__law_any 2 0 [0, 1] (aCons (mVar 1) (aCons (mC (.int 2)) aNil)) aNil) (mC (.int 0)))) (mVar 7) (mFn fTuple (aCons (mVar 7) aNil))))
    b)))))) ([some (.rl (ns.map .int)), none, none, none, none, none, none, none, none, none, none, none, none, none, none, none, none, none, none, none, none, none]) []) (fun _ _ => False) R := by
  obtain ⟨st1, a1, a2⟩ := draw_ok hn (salt := 3) (by omega) (by omega)
  refine sp_step (e1 := [some (.rl (ns.map .int)), some (.ref 1), none, none, none, none, none, none, none, none, none, none, none, none, none, none, none, none, none, none, none, none]) (st1 := st1) (by (simp only [bind_exc, toS_exc, seq_exc, seq_rt, x_var, x_c, x_bin, x_un, x_fn, x_bm, x_tst, x_notT, x_andT, x_orT, x_if, x_not, x_and, x_or, x_nil, x_cons, x_star, x_tup, x_lst, x_call, x_sl, x_oN, x_oS, x_lrg, x_trg, x_iseq, x_enum, x_zip, x_yes, x_mk, x_mt, x_fld, x_snil, x_set, x_ret, x_sif, x_drop, x_raise, x_asg, x_par, x_asgH, x_hsub, x_sfld, bind_ok, toS_ok, seq_nx, opt_ok, sel_0, sel_1, sel_2, sel_3, sel_nil, mkL_f, mkL_t, f_int, f_add, f_eqI, f_neI, f_abs, f_i1, f_max2, f_min2, f_neg, List.getElem?_cons_succ, List.getElem?_cons_zero, List.set_cons_succ, List.set_cons_zero, List.length_cons, List.length_nil, List.cons_append, List.nil_append, List.map_cons, List.map_nil, List.zip_cons_cons, List.zip_nil_left, List.zip_nil_right, List.foldl_cons, List.foldl_nil, szl, ite_true, ite_false, Nat.zero_add, Nat.reduceAdd, Nat.reduceSub, ↓reduceIte, and_self, and_true, true_and, Bool.not_true, Bool.not_false, Bool.not_not, Bool.false_eq_true, reduceCtorEq, gN, gT, gsNil, gsCons, hName, hTup, hsNil, hsCons, Option.bind_some, Option.map_some, partO, seqv_tup, seqv_fl, decide_true, decide_false, Nat.reduceLeDiff, e_draw, a1]; try rfl)) ?_
  obtain ⟨c, ss, st2, b1, b2, b3, b4, b5⟩ := wide_ok (most := 10) a2 (by rfl) (by omega) (by omega)
  refine sp_step (e1 := [some (.rl (ns.map .int)), some (.ref 1), some (.int c), some (.fl (rowsD ss)), none, none, none, none, none, none, none, none, none, none, none, none, none, none, none, none, none, none]) (st1 := st2) (by (simp only [bind_exc, toS_exc, seq_exc, seq_rt, x_var, x_c, x_bin, x_un, x_fn, x_bm, x_tst, x_notT, x_andT, x_orT, x_if, x_not, x_and, x_or, x_nil, x_cons, x_star, x_tup, x_lst, x_call, x_sl, x_oN, x_oS, x_lrg, x_trg, x_iseq, x_enum, x_zip, x_yes, x_mk, x_mt, x_fld, x_snil, x_set, x_ret, x_sif, x_drop, x_raise, x_asg, x_par, x_asgH, x_hsub, x_sfld, bind_ok, toS_ok, seq_nx, opt_ok, sel_0, sel_1, sel_2, sel_3, sel_nil, mkL_f, mkL_t, f_int, f_add, f_eqI, f_neI, f_abs, f_i1, f_max2, f_min2, f_neg, List.getElem?_cons_succ, List.getElem?_cons_zero, List.set_cons_succ, List.set_cons_zero, List.length_cons, List.length_nil, List.cons_append, List.nil_append, List.map_cons, List.map_nil, List.zip_cons_cons, List.zip_nil_left, List.zip_nil_right, List.foldl_cons, List.foldl_nil, szl, ite_true, ite_false, Nat.zero_add, Nat.reduceAdd, Nat.reduceSub, ↓reduceIte, and_self, and_true, true_and, Bool.not_true, Bool.not_false, Bool.not_not, Bool.false_eq_true, reduceCtorEq, gN, gT, gsNil, gsCons, hName, hTup, hsNil, hsCons, Option.bind_some, Option.map_some, partO, seqv_tup, seqv_fl, decide_true, decide_false, Nat.reduceLeDiff, e_wide, b1]; try rfl)) ?_
  obtain ⟨n, st3, n1, n2, n3⟩ : ∃ (n : Nat) (st3 : Sto), mIf (mTst (mBin fGt (mCall F__law_any 2 0 [0, 1] (aCons (mVar 1) (aCons (mC (.int 8)) aNil)) aNil) (mC (.int 0)))) (mCall F__law_any 2 0 [0, 1] (aCons (mVar 1) (aCons (mC (.int 13)) aNil)) aNil) (mBin (fAdd false) (mC (.int 150)) (mCall F__law_any 2 0 [0, 1] (aCons (mVar 1) (aCons (mC (.int 50)) aNil)) aNil)) [some (.rl (ns.map .int)), some (.ref 1), some (.int c), some (.fl (rowsD ss)), none, none, none, none, none, none, none, none, none, none, none, none, none, none, none, none, none, none] st2 = .ok (.int n) st3 ∧ n < 200 ∧ Dr [] st3 := by
    obtain ⟨r, st', r1, r2, r3, r4⟩ := any_ok b2 (show (0 : Int) < 8 by omega) (by omega)
    by_cases q : 0 < r
    · obtain ⟨m, st'', m1, m2, m3, m4⟩ := any_ok r4 (show (0 : Int) < 13 by omega) (by omega)
      obtain ⟨n, rfl⟩ := Int.eq_ofNat_of_zero_le m2
      exact ⟨n, st'', (by (simp only [bind_exc, toS_exc, seq_exc, seq_rt, x_var, x_c, x_bin, x_un, x_fn, x_bm, x_tst, x_notT, x_andT, x_orT, x_if, x_not, x_and, x_or, x_nil, x_cons, x_star, x_tup, x_lst, x_call, x_sl, x_oN, x_oS, x_lrg, x_trg, x_iseq, x_enum, x_zip, x_yes, x_mk, x_mt, x_fld, x_snil, x_set, x_ret, x_sif, x_drop, x_raise, x_asg, x_par, x_asgH, x_hsub, x_sfld, bind_ok, toS_ok, seq_nx, opt_ok, sel_0, sel_1, sel_2, sel_3, sel_nil, mkL_f, mkL_t, f_int, f_add, f_eqI, f_neI, f_abs, f_i1, f_max2, f_min2, f_neg, List.getElem?_cons_succ, List.getElem?_cons_zero, List.set_cons_succ, List.set_cons_zero, List.length_cons, List.length_nil, List.cons_append, List.nil_append, List.map_cons, List.map_nil, List.zip_cons_cons, List.zip_nil_left, List.zip_nil_right, List.foldl_cons, List.foldl_nil, szl, ite_true, ite_false, Nat.zero_add, Nat.reduceAdd, Nat.reduceSub, ↓reduceIte, and_self, and_true, true_and, Bool.not_true, Bool.not_false, Bool.not_not, Bool.false_eq_true, reduceCtorEq, gN, gT, gsNil, gsCons, hName, hTup, hsNil, hsCons, Option.bind_some, Option.map_some, partO, seqv_tup, seqv_fl, decide_true, decide_false, Nat.reduceLeDiff, e_any, r1, decide_eq_true q, m1]; try rfl)), by omega, m4⟩
    · obtain ⟨m, st'', m1, m2, m3, m4⟩ := any_ok r4 (show (0 : Int) < 50 by omega) (by omega)
      obtain ⟨n, rfl⟩ := Int.eq_ofNat_of_zero_le m2
      have e : (150 : Int) + (n : Int) = ((150 + n : Nat) : Int) := by omega
      exact ⟨150 + n, st'', (by (simp only [bind_exc, toS_exc, seq_exc, seq_rt, x_var, x_c, x_bin, x_un, x_fn, x_bm, x_tst, x_notT, x_andT, x_orT, x_if, x_not, x_and, x_or, x_nil, x_cons, x_star, x_tup, x_lst, x_call, x_sl, x_oN, x_oS, x_lrg, x_trg, x_iseq, x_enum, x_zip, x_yes, x_mk, x_mt, x_fld, x_snil, x_set, x_ret, x_sif, x_drop, x_raise, x_asg, x_par, x_asgH, x_hsub, x_sfld, bind_ok, toS_ok, seq_nx, opt_ok, sel_0, sel_1, sel_2, sel_3, sel_nil, mkL_f, mkL_t, f_int, f_add, f_eqI, f_neI, f_abs, f_i1, f_max2, f_min2, f_neg, List.getElem?_cons_succ, List.getElem?_cons_zero, List.set_cons_succ, List.set_cons_zero, List.length_cons, List.length_nil, List.cons_append, List.nil_append, List.map_cons, List.map_nil, List.zip_cons_cons, List.zip_nil_left, List.zip_nil_right, List.foldl_cons, List.foldl_nil, szl, ite_true, ite_false, Nat.zero_add, Nat.reduceAdd, Nat.reduceSub, ↓reduceIte, and_self, and_true, true_and, Bool.not_true, Bool.not_false, Bool.not_not, Bool.false_eq_true, reduceCtorEq, gN, gT, gsNil, gsCons, hName, hTup, hsNil, hsCons, Option.bind_some, Option.map_some, partO, seqv_tup, seqv_fl, decide_true, decide_false, Nat.reduceLeDiff, e_any, r1, decide_eq_false q, m1, e]; try rfl)), by omega, m4⟩
  refine sp_step (e1 := [some (.rl (ns.map .int)), some (.ref 1), some (.int c), some (.fl (rowsD ss)), some (.int n), none, none, none, none, none, none, none, none, none, none, none, none, none, none, none, none, none]) (st1 := st3) (by rw [x_set, n1]; rfl) ?_
  have l3 : st3.length = 2 := n3.len
  have c1 := init_ok (st := st3) b3 (by omega) (by omega)
  rw [l3] at c1
  have d1 : Dr [machO c ss 3, .dk []] (st3 ++ [machO c ss 3, .dk []]) := n3.app _
  have wf1 : ∀ k, 4 ≤ k → wf k [machO c ss 3, .dk []] := fun k hk => by
    unfold wf
    simp only [List.all_cons, List.all_nil, machO, noRefO, noRefs, noRefK, noRef, Bool.and_true, Bool.true_and, Bool.and_eq_true, decide_eq_true_eq]
    refine ⟨?_, by omega⟩
    rw [noRefs_all, List.all_map]
    refine List.all_eq_true.mpr fun r _ => ?_
    simp only [Function.comp, noRef, noRefs_ints]
  obtain ⟨hs, st4, f1, f2, f3, f4⟩ := heap_ok (c := c) (n := n) d1 (wf1 _ (by show 4 ≤ 2 + 2; omega)) b3.c0 (by omega) (by omega)
  refine sp_step (e1 := [some (.rl (ns.map .int)), some (.ref 1), some (.int c), some (.fl (rowsD ss)), some (.int n), some (.ref 2), some (.tup (hs.map slipD)), none, none, none, none, none, none, none, none, none, none, none, none, none, none, none]) (st1 := st4) (by
    (simp only [bind_exc, toS_exc, seq_exc, seq_rt, x_var, x_c, x_bin, x_un, x_fn, x_bm, x_tst, x_notT, x_andT, x_orT, x_if, x_not, x_and, x_or, x_nil, x_cons, x_star, x_tup, x_lst, x_call, x_sl, x_oN, x_oS, x_lrg, x_trg, x_iseq, x_enum, x_zip, x_yes, x_mk, x_mt, x_fld, x_snil, x_set, x_ret, x_sif, x_drop, x_raise, x_asg, x_par, x_asgH, x_hsub, x_sfld, bind_ok, toS_ok, seq_nx, opt_ok, sel_0, sel_1, sel_2, sel_3, sel_nil, mkL_f, mkL_t, f_int, f_add, f_eqI, f_neI, f_abs, f_i1, f_max2, f_min2, f_neg, List.getElem?_cons_succ, List.getElem?_cons_zero, List.set_cons_succ, List.set_cons_zero, List.length_cons, List.length_nil, List.cons_append, List.nil_append, List.map_cons, List.map_nil, List.zip_cons_cons, List.zip_nil_left, List.zip_nil_right, List.foldl_cons, List.foldl_nil, szl, ite_true, ite_false, Nat.zero_add, Nat.reduceAdd, Nat.reduceSub, ↓reduceIte, and_self, and_true, true_and, Bool.not_true, Bool.not_false, Bool.not_not, Bool.false_eq_true, reduceCtorEq, gN, gT, gsNil, gsCons, hName, hTup, hsNil, hsCons, Option.bind_some, Option.map_some, partO, seqv_tup, seqv_fl, decide_true, decide_false, Nat.reduceLeDiff, x_make, l3, c1, madeD, e_heap, f1]; try rfl)) ?_
  obtain ⟨ys, st5, g1, g2, g3⟩ := mixed_ok (x := .tup (hs.map slipD)) (j := 1) f2 rfl PD.slips (by omega) (by rw [List.length_map]; omega)
  obtain ⟨gs, rfl, gp⟩ := perm_slipsD g2
  have g4 : Dr (Rk c ss (gs.map slipD) []) st5 := g3
  refine sp_step (e1 := [some (.rl (ns.map .int)), some (.ref 1), some (.int c), some (.fl (rowsD ss)), some (.int n), some (.ref 2), some (.tup (hs.map slipD)), some (.ref 5), none, none, none, none, none, none, none, none, none, none, none, none, none, none]) (st1 := st5) (by
    (simp only [bind_exc, toS_exc, seq_exc, seq_rt, x_var, x_c, x_bin, x_un, x_fn, x_bm, x_tst, x_notT, x_andT, x_orT, x_if, x_not, x_and, x_or, x_nil, x_cons, x_star, x_tup, x_lst, x_call, x_sl, x_oN, x_oS, x_lrg, x_trg, x_iseq, x_enum, x_zip, x_yes, x_mk, x_mt, x_fld, x_snil, x_set, x_ret, x_sif, x_drop, x_raise, x_asg, x_par, x_asgH, x_hsub, x_sfld, bind_ok, toS_ok, seq_nx, opt_ok, sel_0, sel_1, sel_2, sel_3, sel_nil, mkL_f, mkL_t, f_int, f_add, f_eqI, f_neI, f_abs, f_i1, f_max2, f_min2, f_neg, List.getElem?_cons_succ, List.getElem?_cons_zero, List.set_cons_succ, List.set_cons_zero, List.length_cons, List.length_nil, List.cons_append, List.nil_append, List.map_cons, List.map_nil, List.zip_cons_cons, List.zip_nil_left, List.zip_nil_right, List.foldl_cons, List.foldl_nil, szl, ite_true, ite_false, Nat.zero_add, Nat.reduceAdd, Nat.reduceSub, ↓reduceIte, and_self, and_true, true_and, Bool.not_true, Bool.not_false, Bool.not_not, Bool.false_eq_true, reduceCtorEq, gN, gT, gsNil, gsCons, hName, hTup, hsNil, hsCons, Option.bind_some, Option.map_some, partO, seqv_tup, seqv_fl, decide_true, decide_false, Nat.reduceLeDiff, e_mixed, g1]; try rfl)) ?_
  have t5 : ∀ {st}, Dr (Rk c ss (gs.map slipD) []) st → fTuple [.ref 5] st = .ok (.tup (gs.map slipD)) st := fun h => tuple_of (seqv_ref (rk_given h))
  obtain ⟨r, st6, r1, r2, r3, r4⟩ := any_ok g4 (show (0 : Int) < 2 by omega) (by omega)
  obtain ⟨x, hx, hx2⟩ : ∃ x, (x = .ref 5 ∨ x = .tup (gs.map slipD)) ∧ mIf (mTst (mBin (fEq false) (mCall F__law_any 2 0 [0, 1] (aCons (mVar 1) (aCons (mC (.int 2)) aNil)) aNil) (mC (.int 0)))) (mVar 7) (mFn fTuple (aCons (mVar 7) aNil)) [some (.rl (ns.map .int)), some (.ref 1), some (.int c), some (.fl (rowsD ss)), some (.int n), some (.ref 2), some (.tup (hs.map slipD)), some (.ref 5), none, none, none, none, none, none, none, none, none, none, none, none, none, none] st5 = .ok x st6 := by
    by_cases q : r = 0
    · exact ⟨.ref 5, .inl rfl, by (simp only [bind_exc, toS_exc, seq_exc, seq_rt, x_var, x_c, x_bin, x_un, x_fn, x_bm, x_tst, x_notT, x_andT, x_orT, x_if, x_not, x_and, x_or, x_nil, x_cons, x_star, x_tup, x_lst, x_call, x_sl, x_oN, x_oS, x_lrg, x_trg, x_iseq, x_enum, x_zip, x_yes, x_mk, x_mt, x_fld, x_snil, x_set, x_ret, x_sif, x_drop, x_raise, x_asg, x_par, x_asgH, x_hsub, x_sfld, bind_ok, toS_ok, seq_nx, opt_ok, sel_0, sel_1, sel_2, sel_3, sel_nil, mkL_f, mkL_t, f_int, f_add, f_eqI, f_neI, f_abs, f_i1, f_max2, f_min2, f_neg, List.getElem?_cons_succ, List.getElem?_cons_zero, List.set_cons_succ, List.set_cons_zero, List.length_cons, List.length_nil, List.cons_append, List.nil_append, List.map_cons, List.map_nil, List.zip_cons_cons, List.zip_nil_left, List.zip_nil_right, List.foldl_cons, List.foldl_nil, szl, ite_true, ite_false, Nat.zero_add, Nat.reduceAdd, Nat.reduceSub, ↓reduceIte, and_self, and_true, true_and, Bool.not_true, Bool.not_false, Bool.not_not, Bool.false_eq_true, reduceCtorEq, gN, gT, gsNil, gsCons, hName, hTup, hsNil, hsCons, Option.bind_some, Option.map_some, partO, seqv_tup, seqv_fl, decide_true, decide_false, Nat.reduceLeDiff, e_any, r1, decide_eq_true q]; try rfl)⟩
    · exact ⟨_, .inr rfl, by (simp only [bind_exc, toS_exc, seq_exc, seq_rt, x_var, x_c, x_bin, x_un, x_fn, x_bm, x_tst, x_notT, x_andT, x_orT, x_if, x_not, x_and, x_or, x_nil, x_cons, x_star, x_tup, x_lst, x_call, x_sl, x_oN, x_oS, x_lrg, x_trg, x_iseq, x_enum, x_zip, x_yes, x_mk, x_mt, x_fld, x_snil, x_set, x_ret, x_sif, x_drop, x_raise, x_asg, x_par, x_asgH, x_hsub, x_sfld, bind_ok, toS_ok, seq_nx, opt_ok, sel_0, sel_1, sel_2, sel_3, sel_nil, mkL_f, mkL_t, f_int, f_add, f_eqI, f_neI, f_abs, f_i1, f_max2, f_min2, f_neg, List.getElem?_cons_succ, List.getElem?_cons_zero, List.set_cons_succ, List.set_cons_zero, List.length_cons, List.length_nil, List.cons_append, List.nil_append, List.map_cons, List.map_nil, List.zip_cons_cons, List.zip_nil_left, List.zip_nil_right, List.foldl_cons, List.foldl_nil, szl, ite_true, ite_false, Nat.zero_add, Nat.reduceAdd, Nat.reduceSub, ↓reduceIte, and_self, and_true, true_and, Bool.not_true, Bool.not_false, Bool.not_not, Bool.false_eq_true, reduceCtorEq, gN, gT, gsNil, gsCons, hName, hTup, hsNil, hsCons, Option.bind_some, Option.map_some, partO, seqv_tup, seqv_fl, decide_true, decide_false, Nat.reduceLeDiff, e_any, r1, decide_eq_false q, t5 r4]; try rfl)⟩
  refine sp_step (e1 := En1 (.rl (ns.map .int)) c ss n hs x none none none none none none none none none none none) (st1 := st6) (by
    rw [x_set, hx2]; rfl) ?_
  refine k c ss n hs gs x st6 b3 (by omega) ⟨gp, f3.asc, fun p hp => by have := f3.ok p hp; omega, by omega, fun p hp => by have := f3.ok p hp; omega, b4, b3.c0⟩ hx r4
end
end K03

namespace K03
open PySem L2 Mi SrtO
section
variable {st : Sto} {c n : Nat} {ss : List (List Int)} {hs gs : List (Int × Int)} {more : Sto} {x scr : D}
def dueO (hs : List (Int × Int)) (p : Int × Int) : D := if p.1 ∈ hs.map (·.1) then .tup [.str "refused", .int 0] else .tup [.str "told", putO hs p]
theorem filter_sd {f : Int × Int → Bool} (h : ∀ p ∈ hs, p.1.natAbs < 10 ^ 18 ∧ p.2.natAbs < 10 ^ 18) (hl : hs.length ≤ 1000) : Rp (.tup ((hs.filter f).map slipD)) := Rp.tup (Sd.slips (fun p hp => h p ((List.mem_filter.mp hp).1)) (Nat.le_trans (List.length_filter_le _ _) hl))
theorem put_nodup {p : Int × Int} (asc : hs.Pairwise fun p q => p.1 < q.1) (h : p.1 ∉ hs.map (·.1)) : ((hs ++ [p]).map (·.1)).Nodup := by
  rw [List.map_append, List.nodup_append]
  refine ⟨asc_nodup asc, by simp, fun a ha b hb e => ?_⟩
  rw [List.map_singleton, List.mem_singleton] at hb
  subst hb; subst e
  exact h ha
/-- the first questions -/
theorem ask_ok {b : SM} {R : D → Sto → Prop} (hM : Mach c ss) (hz : ss.length ≤ 10) (H : Hs c hs gs) (h : Dr (Rk c ss (gs.map slipD) []) st) (hx : x = .ref 5 ∨ x = .tup (gs.map slipD))
    (k : ∀ (s t q : Int) (st : Sto), 0 ≤ s → s < ss.length → 0 ≤ t → t < 500 → 0 ≤ q → q < c → Dr (Rk c ss (gs.map slipD) []) st → SP (b (En1 scr c ss n hs x (some (.int s)) (some (.int t)) (some (slipD (t, q))) (some (dueO hs (t, q))) none none none none none none none) st) (fun _ _ => False) R) :
    SP ((sSeq (sIf (mTst (mBin (fEq true) (mFn fRepr (aCons (mCall F__law_asked 4 0 [0, 1, 2, 3] (aCons (mVar 5) (aCons (mC (.int 0)) (aCons (mVar 8) (aCons (mC .non) aNil)))) aNil) aNil)) (mFn fRepr (aCons (mTup (aCons (mC (.str "told")) (aCons (mVar 6) aNil))) aNil)))) (sRet (mC (.bl false))) sNil)
    (sSeq (sIf (mTst (mBin (fEq true) (mFn fRepr (aCons (mCall F__law_asked 4 0 [0, 1, 2, 3] (aCons (mVar 5) (aCons (mC (.int 2)) (aCons (mVar 8) (aCons (mC .non) aNil)))) aNil) aNil)) (mFn fRepr (aCons (mTup (aCons (mC (.str "told")) (aCons (mFn fTuple (aCons (mComp false (iSeq (mVar 6)) (gT 2 (gsCons (gN 10) (gsCons (gN 20) gsNil))) [10, 20] tYesM (mVar 20)) aNil)) aNil))) aNil)))) (sRet (mC (.bl false))) sNil)
    (sSeq (sAsg (gT 2 (gsCons (gN 9) (gsCons (gN 10) gsNil))) (mTup (aCons (mCall F__law_any 2 0 [0, 1] (aCons (mVar 1) (aCons (mFn fLen (aCons (mVar 3) aNil)) aNil)) aNil) (aCons (mCall F__law_any 2 0 [0, 1] (aCons (mVar 1) (aCons (mIf (mTst (mBin fLt (mVar 4) (mC (.int 13)))) (mC (.int 40)) (mC (.int 500))) aNil)) aNil) aNil))))
    (sSeq (sIf (mTst (mBin (fEq true) (mFn fRepr (aCons (mCall F__law_asked 4 0 [0, 1, 2, 3] (aCons (mVar 5) (aCons (mC (.int 3)) (aCons (mVar 8) (aCons (mVar 9) aNil)))) aNil) aNil)) (mFn fRepr (aCons (mTup (aCons (mC (.str "told")) (aCons (mCall F__law_led 3 0 [0, 1, 2] (aCons (mVar 3) (aCons (mVar 9) (aCons (mComp false (iSeq (mVar 6)) (gT 2 (gsCons (gN 21) (gsCons (gN 20) gsNil))) [21, 20] tYesM (mVar 20)) aNil))) aNil) aNil))) aNil)))) (sRet (mC (.bl false))) sNil)
    (sSeq (sIf (mTst (mBin (fEq true) (mFn fRepr (aCons (mCall F_since 0 3 [2, 1, 0] aNil (aCons (mVar 10) (aCons (mVar 8) (aCons (mVar 5) aNil)))) aNil)) (mFn fRepr (aCons (mFn fTuple (aCons (mComp false (iSeq (mVar 6)) (gN 11) [11] (mTst (mBin fGt (mBin fIxA (mVar 11) (mC (.int 0))) (mVar 10))) (mVar 11)) aNil)) aNil)))) (sRet (mC (.bl false))) sNil)
    (sSeq (sIf (mTst (mBin (fEq true) (mFn fRepr (aCons (mCall F_until 0 3 [2, 1, 0] aNil (aCons (mVar 10) (aCons (mVar 8) (aCons (mVar 5) aNil)))) aNil)) (mFn fRepr (aCons (mFn fTuple (aCons (mComp false (iSeq (mVar 6)) (gN 11) [11] (mTst (mBin fLt (mBin fIxA (mVar 11) (mC (.int 0))) (mVar 10))) (mVar 11)) aNil)) aNil)))) (sRet (mC (.bl false))) sNil)
    (sSeq (sSet 11 (mTup (aCons (mVar 10) (aCons (mCall F__law_any 2 0 [0, 1] (aCons (mVar 1) (aCons (mVar 2) aNil)) aNil) aNil))))
    (sSeq (sSet 12 (mIf (mTst (mBin (fInA false) (mVar 10) (mComp false (iSeq (mVar 6)) (gT 2 (gsCons (gN 21) (gsCons (gN 20) gsNil))) [21, 20] tYesM (mVar 21)))) (mTup (aCons (mC (.str "refused")) (aCons (mC (.int 0)) aNil))) (mTup (aCons (mC (.str "told")) (aCons (mFn fTuple (aCons (mFn (fSorted false) (aCons (mBin (fAdd false) (mVar 6) (mTup (aCons (mVar 11) aNil))) aNil)) aNil)) aNil)))))
    (sSeq (sIf (mTst (mBin (fEq true) (mFn fRepr (aCons (mLst false (aCons (mCall F__law_asked 4 0 [0, 1, 2, 3] (aCons (mVar 5) (aCons (mC (.int 1)) (aCons (mVar 8) (aCons (mVar 11) aNil)))) aNil) (aCons (mCall F__law_asked 4 0 [0, 1, 2, 3] (aCons (mVar 5) (aCons (mC (.int 4)) (aCons (mC .non) (aCons (mVar 11) aNil)))) aNil) aNil))) aNil)) (mFn fRepr (aCons (mLst false (aCons (mVar 12) (aCons (mTup (aCons (mC (.str "told")) (aCons (mVar 11) aNil))) aNil))) aNil)))) (sRet (mC (.bl false))) sNil)
    b))))))))) (En1 scr c ss n hs x none none none none none none none none none none none) st) (fun _ _ => False) R := by
  have ln := H.len
  have c5 := H.c5
  have c0 := H.c0
  have P := fun {st} (h : Dr (Rk c ss (gs.map slipD) []) st) => H.hp (st := st) h rfl hx
  have t1 := fun (ys : List D) (st : Sto) => tuple_of (st := st) (x := .fl ys) (ys := ys) rfl
  -- told
  have a1 := asked_told (v := .non) (form := 0) (kk := .ref 2) (by unfold corr; rw [if_pos rfl]; exact chk_ok (rk_mach h) (P h))
  obtain ⟨s, s1, s2⟩ := Rp.told (Sd.slips H.sm (by omega))
  refine sp_skip (st1 := st) (by (simp only [bind_exc, toS_exc, seq_exc, seq_rt, x_var, x_c, x_bin, x_un, x_fn, x_bm, x_tst, x_notT, x_andT, x_orT, x_if, x_not, x_and, x_or, x_nil, x_cons, x_star, x_tup, x_lst, x_call, x_sl, x_oN, x_oS, x_lrg, x_trg, x_iseq, x_enum, x_zip, x_yes, x_mk, x_mt, x_fld, x_snil, x_set, x_ret, x_sif, x_drop, x_raise, x_asg, x_par, x_asgH, x_hsub, x_sfld, bind_ok, toS_ok, seq_nx, opt_ok, sel_0, sel_1, sel_2, sel_3, sel_nil, mkL_f, mkL_t, f_int, f_add, f_eqI, f_neI, f_abs, f_i1, f_max2, f_min2, f_neg, List.getElem?_cons_succ, List.getElem?_cons_zero, List.set_cons_succ, List.set_cons_zero, List.length_cons, List.length_nil, List.cons_append, List.nil_append, List.map_cons, List.map_nil, List.zip_cons_cons, List.zip_nil_left, List.zip_nil_right, List.foldl_cons, List.foldl_nil, szl, ite_true, ite_false, Nat.zero_add, Nat.reduceAdd, Nat.reduceSub, ↓reduceIte, and_self, and_true, true_and, Bool.not_true, Bool.not_false, Bool.not_not, Bool.false_eq_true, reduceCtorEq, gN, gT, gsNil, gsCons, hName, hTup, hsNil, hsCons, Option.bind_some, Option.map_some, partO, seqv_tup, seqv_fl, decide_true, decide_false, Nat.reduceLeDiff, a1, s2, str_same s1]; try rfl)) ?_
  -- the row
  have a2 := asked_told (v := .non) (form := 2) (kk := .ref 2) (by unfold corr; rw [if_neg (by decide), if_neg (by decide), if_pos rfl]; exact row_of_ok (rk_mach h) (P h))
  have rs : ∀ i ∈ hs.map (·.2), i.natAbs < 10 ^ 18 := fun i hi => by
    obtain ⟨p, hp, rfl⟩ := List.mem_map.mp hi
    exact (H.sm p hp).2
  have rok : ∀ q ∈ hs.map (·.2), (0 : Int) ≤ q ∧ q < c := fun i hi => by
    obtain ⟨p, hp, rfl⟩ := List.mem_map.mp hi
    exact (H.ok p hp).2
  obtain ⟨s, s1, s2⟩ := Rp.told (Sd.row (ns := hs.map (·.2)) rs (by rw [List.length_map]; omega))
  have cp := comp_all (c := mVar 6) (g := gT 2 (gsCons (gN 10) (gsCons (gN 20) gsNil))) (vs := [10, 20]) (te := mVar 20) (e := En1 scr c ss n hs x none none none none none none none none none none none) (st := st) (xs := hs) slipD (fun p => .int p.2) (d := .tup (hs.map slipD)) rfl rfl (by omega) (fun p hp => ⟨[some scr, some (.ref 1), some (.int c), some (.fl (rowsD ss)), some (.int n), some (.ref 2), some (.tup (hs.map slipD)), some (.ref 5), some x, none, some (.int p.1), none, none, none, none, none, none, none, none, none, some (.int p.2), none], rfl, rfl⟩)
  have em : ∀ f : Int × Int → Int, (hs.map fun p => D.int (f p)) = (hs.map f).map D.int := fun f => by rw [List.map_map]; rfl
  rw [em] at cp
  refine sp_skip (st1 := st) (by (simp only [bind_exc, toS_exc, seq_exc, seq_rt, x_var, x_c, x_bin, x_un, x_fn, x_bm, x_tst, x_notT, x_andT, x_orT, x_if, x_not, x_and, x_or, x_nil, x_cons, x_star, x_tup, x_lst, x_call, x_sl, x_oN, x_oS, x_lrg, x_trg, x_iseq, x_enum, x_zip, x_yes, x_mk, x_mt, x_fld, x_snil, x_set, x_ret, x_sif, x_drop, x_raise, x_asg, x_par, x_asgH, x_hsub, x_sfld, bind_ok, toS_ok, seq_nx, opt_ok, sel_0, sel_1, sel_2, sel_3, sel_nil, mkL_f, mkL_t, f_int, f_add, f_eqI, f_neI, f_abs, f_i1, f_max2, f_min2, f_neg, List.getElem?_cons_succ, List.getElem?_cons_zero, List.set_cons_succ, List.set_cons_zero, List.length_cons, List.length_nil, List.cons_append, List.nil_append, List.map_cons, List.map_nil, List.zip_cons_cons, List.zip_nil_left, List.zip_nil_right, List.foldl_cons, List.foldl_nil, szl, ite_true, ite_false, Nat.zero_add, Nat.reduceAdd, Nat.reduceSub, ↓reduceIte, and_self, and_true, true_and, Bool.not_true, Bool.not_false, Bool.not_not, Bool.false_eq_true, reduceCtorEq, gN, gT, gsNil, gsCons, hName, hTup, hsNil, hsCons, Option.bind_some, Option.map_some, partO, seqv_tup, seqv_fl, decide_true, decide_false, Nat.reduceLeDiff, a2, cp, t1, s2, str_same s1]; try rfl)) ?_
  -- state, time
  have lens : ∀ st : Sto, fLen [.fl (rowsD ss)] st = .ok (.int ss.length) st := fun st => by rw [len_of (ys := rowsD ss) rfl]; unfold rowsD; rw [List.length_map]
  obtain ⟨s0, st1, b1, b2, b3, b4⟩ := any_ok h (show (0 : Int) < (ss.length : Int) by have := hM.ne; omega) (by omega)
  obtain ⟨t, st2, c1, c2, c3, c4⟩ : ∃ (t : Int) (st2 : Sto), mCall F__law_any 2 0 [0, 1] (aCons (mVar 1) (aCons (mIf (mTst (mBin fLt (mVar 4) (mC (.int 13)))) (mC (.int 40)) (mC (.int 500))) aNil)) aNil (En1 scr c ss n hs x none none none none none none none none none none none) st1 = .ok (.int t) st2 ∧ 0 ≤ t ∧ t < 500 ∧ Dr (Rk c ss (gs.map slipD) []) st2 := by
    by_cases q : (n : Int) < 13
    · obtain ⟨r, st', r1, r2, r3, r4⟩ := any_ok b4 (show (0 : Int) < 40 by omega) (by omega)
      exact ⟨r, st', (by (simp only [bind_exc, toS_exc, seq_exc, seq_rt, x_var, x_c, x_bin, x_un, x_fn, x_bm, x_tst, x_notT, x_andT, x_orT, x_if, x_not, x_and, x_or, x_nil, x_cons, x_star, x_tup, x_lst, x_call, x_sl, x_oN, x_oS, x_lrg, x_trg, x_iseq, x_enum, x_zip, x_yes, x_mk, x_mt, x_fld, x_snil, x_set, x_ret, x_sif, x_drop, x_raise, x_asg, x_par, x_asgH, x_hsub, x_sfld, bind_ok, toS_ok, seq_nx, opt_ok, sel_0, sel_1, sel_2, sel_3, sel_nil, mkL_f, mkL_t, f_int, f_add, f_eqI, f_neI, f_abs, f_i1, f_max2, f_min2, f_neg, List.getElem?_cons_succ, List.getElem?_cons_zero, List.set_cons_succ, List.set_cons_zero, List.length_cons, List.length_nil, List.cons_append, List.nil_append, List.map_cons, List.map_nil, List.zip_cons_cons, List.zip_nil_left, List.zip_nil_right, List.foldl_cons, List.foldl_nil, szl, ite_true, ite_false, Nat.zero_add, Nat.reduceAdd, Nat.reduceSub, ↓reduceIte, and_self, and_true, true_and, Bool.not_true, Bool.not_false, Bool.not_not, Bool.false_eq_true, reduceCtorEq, gN, gT, gsNil, gsCons, hName, hTup, hsNil, hsCons, Option.bind_some, Option.map_some, partO, seqv_tup, seqv_fl, decide_true, decide_false, Nat.reduceLeDiff, decide_eq_true q, e_any, r1]; try rfl)), r2, by omega, r4⟩
    · obtain ⟨r, st', r1, r2, r3, r4⟩ := any_ok b4 (show (0 : Int) < 500 by omega) (by omega)
      exact ⟨r, st', (by (simp only [bind_exc, toS_exc, seq_exc, seq_rt, x_var, x_c, x_bin, x_un, x_fn, x_bm, x_tst, x_notT, x_andT, x_orT, x_if, x_not, x_and, x_or, x_nil, x_cons, x_star, x_tup, x_lst, x_call, x_sl, x_oN, x_oS, x_lrg, x_trg, x_iseq, x_enum, x_zip, x_yes, x_mk, x_mt, x_fld, x_snil, x_set, x_ret, x_sif, x_drop, x_raise, x_asg, x_par, x_asgH, x_hsub, x_sfld, bind_ok, toS_ok, seq_nx, opt_ok, sel_0, sel_1, sel_2, sel_3, sel_nil, mkL_f, mkL_t, f_int, f_add, f_eqI, f_neI, f_abs, f_i1, f_max2, f_min2, f_neg, List.getElem?_cons_succ, List.getElem?_cons_zero, List.set_cons_succ, List.set_cons_zero, List.length_cons, List.length_nil, List.cons_append, List.nil_append, List.map_cons, List.map_nil, List.zip_cons_cons, List.zip_nil_left, List.zip_nil_right, List.foldl_cons, List.foldl_nil, szl, ite_true, ite_false, Nat.zero_add, Nat.reduceAdd, Nat.reduceSub, ↓reduceIte, and_self, and_true, true_and, Bool.not_true, Bool.not_false, Bool.not_not, Bool.false_eq_true, reduceCtorEq, gN, gT, gsNil, gsCons, hName, hTup, hsNil, hsCons, Option.bind_some, Option.map_some, partO, seqv_tup, seqv_fl, decide_true, decide_false, Nat.reduceLeDiff, decide_eq_false q, e_any, r1]; try rfl)), r2, by omega, r4⟩
  refine sp_step (e1 := En1 scr c ss n hs x (some (.int s0)) (some (.int t)) none none none none none none none none none) (st1 := st2) (by
    rw [x_asg]
    have m1 : mTup (aCons (mCall F__law_any 2 0 [0, 1] (aCons (mVar 1) (aCons (mFn fLen (aCons (mVar 3) aNil)) aNil)) aNil) (aCons (mCall F__law_any 2 0 [0, 1] (aCons (mVar 1) (aCons (mIf (mTst (mBin fLt (mVar 4) (mC (.int 13)))) (mC (.int 40)) (mC (.int 500))) aNil)) aNil) aNil)) (En1 scr c ss n hs x none none none none none none none none none none none) st = .ok (.tup [.int s0, .int t]) st2 := by
      rw [x_tup, x_cons]
      have m0 : mCall F__law_any 2 0 [0, 1] (aCons (mVar 1) (aCons (mFn fLen (aCons (mVar 3) aNil)) aNil)) aNil (En1 scr c ss n hs x none none none none none none none none none none none) st = .ok (.int s0) st1 := by (simp only [bind_exc, toS_exc, seq_exc, seq_rt, x_var, x_c, x_bin, x_un, x_fn, x_bm, x_tst, x_notT, x_andT, x_orT, x_if, x_not, x_and, x_or, x_nil, x_cons, x_star, x_tup, x_lst, x_call, x_sl, x_oN, x_oS, x_lrg, x_trg, x_iseq, x_enum, x_zip, x_yes, x_mk, x_mt, x_fld, x_snil, x_set, x_ret, x_sif, x_drop, x_raise, x_asg, x_par, x_asgH, x_hsub, x_sfld, bind_ok, toS_ok, seq_nx, opt_ok, sel_0, sel_1, sel_2, sel_3, sel_nil, mkL_f, mkL_t, f_int, f_add, f_eqI, f_neI, f_abs, f_i1, f_max2, f_min2, f_neg, List.getElem?_cons_succ, List.getElem?_cons_zero, List.set_cons_succ, List.set_cons_zero, List.length_cons, List.length_nil, List.cons_append, List.nil_append, List.map_cons, List.map_nil, List.zip_cons_cons, List.zip_nil_left, List.zip_nil_right, List.foldl_cons, List.foldl_nil, szl, ite_true, ite_false, Nat.zero_add, Nat.reduceAdd, Nat.reduceSub, ↓reduceIte, and_self, and_true, true_and, Bool.not_true, Bool.not_false, Bool.not_not, Bool.false_eq_true, reduceCtorEq, gN, gT, gsNil, gsCons, hName, hTup, hsNil, hsCons, Option.bind_some, Option.map_some, partO, seqv_tup, seqv_fl, decide_true, decide_false, Nat.reduceLeDiff, lens, e_any, b1]; try rfl)
      rw [m0, bind_ok, x_cons, c1]
      rfl
    rw [m1]
    rfl) ?_
  -- truth
  have hP := P c4
  have tr := truth_ok (rk_mach c4) hM ⟨b2, b3⟩ hP
  have a3 := asked_told (v := .int s0) (form := 3) (kk := .ref 2) (x := x) (by unfold corr; rw [if_neg (by decide), if_neg (by decide), if_neg (by decide), if_pos rfl]; exact tr)
  have li := led_in hM (hs.map (·.2)) s0 ⟨b2, b3⟩ rok
  obtain ⟨s, s1, s2⟩ := Rp.told (Sd.int (i := ledI ss s0 (hs.map (·.2))) (by omega))
  have cp := comp_all (c := mVar 6) (g := gT 2 (gsCons (gN 21) (gsCons (gN 20) gsNil))) (vs := [21, 20]) (te := mVar 20) (e := En1 scr c ss n hs x (some (.int s0)) (some (.int t)) none none none none none none none none none) (st := st2) (xs := hs) slipD (fun p => .int p.2) (d := .tup (hs.map slipD)) rfl rfl (by omega) (fun p hp => ⟨[some scr, some (.ref 1), some (.int c), some (.fl (rowsD ss)), some (.int n), some (.ref 2), some (.tup (hs.map slipD)), some (.ref 5), some x, some (.int s0), some (.int t), none, none, none, none, none, none, none, none, none, some (.int p.2), some (.int p.1)], rfl, rfl⟩)
  rw [em] at cp
  have ll := law_led_ok (st := st2) (x := .fl ((hs.map (·.2)).map .int)) (row := hs.map (·.2)) hM ⟨b2, b3⟩ rok rfl
  refine sp_skip (st1 := st2) (by (simp only [bind_exc, toS_exc, seq_exc, seq_rt, x_var, x_c, x_bin, x_un, x_fn, x_bm, x_tst, x_notT, x_andT, x_orT, x_if, x_not, x_and, x_or, x_nil, x_cons, x_star, x_tup, x_lst, x_call, x_sl, x_oN, x_oS, x_lrg, x_trg, x_iseq, x_enum, x_zip, x_yes, x_mk, x_mt, x_fld, x_snil, x_set, x_ret, x_sif, x_drop, x_raise, x_asg, x_par, x_asgH, x_hsub, x_sfld, bind_ok, toS_ok, seq_nx, opt_ok, sel_0, sel_1, sel_2, sel_3, sel_nil, mkL_f, mkL_t, f_int, f_add, f_eqI, f_neI, f_abs, f_i1, f_max2, f_min2, f_neg, List.getElem?_cons_succ, List.getElem?_cons_zero, List.set_cons_succ, List.set_cons_zero, List.length_cons, List.length_nil, List.cons_append, List.nil_append, List.map_cons, List.map_nil, List.zip_cons_cons, List.zip_nil_left, List.zip_nil_right, List.foldl_cons, List.foldl_nil, szl, ite_true, ite_false, Nat.zero_add, Nat.reduceAdd, Nat.reduceSub, ↓reduceIte, and_self, and_true, true_and, Bool.not_true, Bool.not_false, Bool.not_not, Bool.false_eq_true, reduceCtorEq, gN, gT, gsNil, gsCons, hName, hTup, hsNil, hsCons, Option.bind_some, Option.map_some, partO, seqv_tup, seqv_fl, decide_true, decide_false, Nat.reduceLeDiff, a3, cp, e_led, ll, s2, str_same s1]; try rfl)) ?_
  -- since, until
  have a4 := since_ok (t := t) (rk_mach c4) hP
  obtain ⟨s, s1, s2⟩ := filter_sd (f := fun p => decide (t < p.1)) H.sm (by omega)
  have cp := comp_of (c := mVar 6) (g := gN 11) (vs := [11]) (te := mVar 11) (tt := mTst (mBin fGt (mBin fIxA (mVar 11) (mC (.int 0))) (mVar 10))) (e := En1 scr c ss n hs x (some (.int s0)) (some (.int t)) none none none none none none none none none) (st := st2) (xs := hs) slipD (fun p => decide (t < p.1)) slipD (d := .tup (hs.map slipD)) rfl rfl (by omega) (fun p hp => ⟨En1 scr c ss n hs x (some (.int s0)) (some (.int t)) (some (slipD p)) none none none none none none none none, rfl, (by (simp only [bind_exc, toS_exc, seq_exc, seq_rt, x_var, x_c, x_bin, x_un, x_fn, x_bm, x_tst, x_notT, x_andT, x_orT, x_if, x_not, x_and, x_or, x_nil, x_cons, x_star, x_tup, x_lst, x_call, x_sl, x_oN, x_oS, x_lrg, x_trg, x_iseq, x_enum, x_zip, x_yes, x_mk, x_mt, x_fld, x_snil, x_set, x_ret, x_sif, x_drop, x_raise, x_asg, x_par, x_asgH, x_hsub, x_sfld, bind_ok, toS_ok, seq_nx, opt_ok, sel_0, sel_1, sel_2, sel_3, sel_nil, mkL_f, mkL_t, f_int, f_add, f_eqI, f_neI, f_abs, f_i1, f_max2, f_min2, f_neg, List.getElem?_cons_succ, List.getElem?_cons_zero, List.set_cons_succ, List.set_cons_zero, List.length_cons, List.length_nil, List.cons_append, List.nil_append, List.map_cons, List.map_nil, List.zip_cons_cons, List.zip_nil_left, List.zip_nil_right, List.foldl_cons, List.foldl_nil, szl, ite_true, ite_false, Nat.zero_add, Nat.reduceAdd, Nat.reduceSub, ↓reduceIte, and_self, and_true, true_and, Bool.not_true, Bool.not_false, Bool.not_not, Bool.false_eq_true, reduceCtorEq, gN, gT, gsNil, gsCons, hName, hTup, hsNil, hsCons, Option.bind_some, Option.map_some, partO, seqv_tup, seqv_fl, decide_true, decide_false, Nat.reduceLeDiff, i0s]; try rfl)), fun _ => rfl⟩)
  refine sp_skip (st1 := st2) (by (simp only [bind_exc, toS_exc, seq_exc, seq_rt, x_var, x_c, x_bin, x_un, x_fn, x_bm, x_tst, x_notT, x_andT, x_orT, x_if, x_not, x_and, x_or, x_nil, x_cons, x_star, x_tup, x_lst, x_call, x_sl, x_oN, x_oS, x_lrg, x_trg, x_iseq, x_enum, x_zip, x_yes, x_mk, x_mt, x_fld, x_snil, x_set, x_ret, x_sif, x_drop, x_raise, x_asg, x_par, x_asgH, x_hsub, x_sfld, bind_ok, toS_ok, seq_nx, opt_ok, sel_0, sel_1, sel_2, sel_3, sel_nil, mkL_f, mkL_t, f_int, f_add, f_eqI, f_neI, f_abs, f_i1, f_max2, f_min2, f_neg, List.getElem?_cons_succ, List.getElem?_cons_zero, List.set_cons_succ, List.set_cons_zero, List.length_cons, List.length_nil, List.cons_append, List.nil_append, List.map_cons, List.map_nil, List.zip_cons_cons, List.zip_nil_left, List.zip_nil_right, List.foldl_cons, List.foldl_nil, szl, ite_true, ite_false, Nat.zero_add, Nat.reduceAdd, Nat.reduceSub, ↓reduceIte, and_self, and_true, true_and, Bool.not_true, Bool.not_false, Bool.not_not, Bool.false_eq_true, reduceCtorEq, gN, gT, gsNil, gsCons, hName, hTup, hsNil, hsCons, Option.bind_some, Option.map_some, partO, seqv_tup, seqv_fl, decide_true, decide_false, Nat.reduceLeDiff, a4, cp, t1, s2, str_same s1]; try rfl)) ?_
  have a5 := until_ok (t := t) (rk_mach c4) hP
  obtain ⟨s, s1, s2⟩ := filter_sd (f := fun p => decide (p.1 < t)) H.sm (by omega)
  have cp := comp_of (c := mVar 6) (g := gN 11) (vs := [11]) (te := mVar 11) (tt := mTst (mBin fLt (mBin fIxA (mVar 11) (mC (.int 0))) (mVar 10))) (e := En1 scr c ss n hs x (some (.int s0)) (some (.int t)) none none none none none none none none none) (st := st2) (xs := hs) slipD (fun p => decide (p.1 < t)) slipD (d := .tup (hs.map slipD)) rfl rfl (by omega) (fun p hp => ⟨En1 scr c ss n hs x (some (.int s0)) (some (.int t)) (some (slipD p)) none none none none none none none none, rfl, (by (simp only [bind_exc, toS_exc, seq_exc, seq_rt, x_var, x_c, x_bin, x_un, x_fn, x_bm, x_tst, x_notT, x_andT, x_orT, x_if, x_not, x_and, x_or, x_nil, x_cons, x_star, x_tup, x_lst, x_call, x_sl, x_oN, x_oS, x_lrg, x_trg, x_iseq, x_enum, x_zip, x_yes, x_mk, x_mt, x_fld, x_snil, x_set, x_ret, x_sif, x_drop, x_raise, x_asg, x_par, x_asgH, x_hsub, x_sfld, bind_ok, toS_ok, seq_nx, opt_ok, sel_0, sel_1, sel_2, sel_3, sel_nil, mkL_f, mkL_t, f_int, f_add, f_eqI, f_neI, f_abs, f_i1, f_max2, f_min2, f_neg, List.getElem?_cons_succ, List.getElem?_cons_zero, List.set_cons_succ, List.set_cons_zero, List.length_cons, List.length_nil, List.cons_append, List.nil_append, List.map_cons, List.map_nil, List.zip_cons_cons, List.zip_nil_left, List.zip_nil_right, List.foldl_cons, List.foldl_nil, szl, ite_true, ite_false, Nat.zero_add, Nat.reduceAdd, Nat.reduceSub, ↓reduceIte, and_self, and_true, true_and, Bool.not_true, Bool.not_false, Bool.not_not, Bool.false_eq_true, reduceCtorEq, gN, gT, gsNil, gsCons, hName, hTup, hsNil, hsCons, Option.bind_some, Option.map_some, partO, seqv_tup, seqv_fl, decide_true, decide_false, Nat.reduceLeDiff, i0s]; try rfl)), fun _ => rfl⟩)
  refine sp_skip (st1 := st2) (by (simp only [bind_exc, toS_exc, seq_exc, seq_rt, x_var, x_c, x_bin, x_un, x_fn, x_bm, x_tst, x_notT, x_andT, x_orT, x_if, x_not, x_and, x_or, x_nil, x_cons, x_star, x_tup, x_lst, x_call, x_sl, x_oN, x_oS, x_lrg, x_trg, x_iseq, x_enum, x_zip, x_yes, x_mk, x_mt, x_fld, x_snil, x_set, x_ret, x_sif, x_drop, x_raise, x_asg, x_par, x_asgH, x_hsub, x_sfld, bind_ok, toS_ok, seq_nx, opt_ok, sel_0, sel_1, sel_2, sel_3, sel_nil, mkL_f, mkL_t, f_int, f_add, f_eqI, f_neI, f_abs, f_i1, f_max2, f_min2, f_neg, List.getElem?_cons_succ, List.getElem?_cons_zero, List.set_cons_succ, List.set_cons_zero, List.length_cons, List.length_nil, List.cons_append, List.nil_append, List.map_cons, List.map_nil, List.zip_cons_cons, List.zip_nil_left, List.zip_nil_right, List.foldl_cons, List.foldl_nil, szl, ite_true, ite_false, Nat.zero_add, Nat.reduceAdd, Nat.reduceSub, ↓reduceIte, and_self, and_true, true_and, Bool.not_true, Bool.not_false, Bool.not_not, Bool.false_eq_true, reduceCtorEq, gN, gT, gsNil, gsCons, hName, hTup, hsNil, hsCons, Option.bind_some, Option.map_some, partO, seqv_tup, seqv_fl, decide_true, decide_false, Nat.reduceLeDiff, a5, cp, t1, s2, str_same s1]; try rfl)) ?_
  -- a slip
  obtain ⟨q, st3, q1, q2, q3, q4⟩ := any_ok c4 (show (0 : Int) < (c : Int) by omega) (by omega)
  refine sp_step (e1 := En1 scr c ss n hs x (some (.int s0)) (some (.int t)) (some (slipD (t, q))) none none none none none none none none) (st1 := st3) (by (simp only [bind_exc, toS_exc, seq_exc, seq_rt, x_var, x_c, x_bin, x_un, x_fn, x_bm, x_tst, x_notT, x_andT, x_orT, x_if, x_not, x_and, x_or, x_nil, x_cons, x_star, x_tup, x_lst, x_call, x_sl, x_oN, x_oS, x_lrg, x_trg, x_iseq, x_enum, x_zip, x_yes, x_mk, x_mt, x_fld, x_snil, x_set, x_ret, x_sif, x_drop, x_raise, x_asg, x_par, x_asgH, x_hsub, x_sfld, bind_ok, toS_ok, seq_nx, opt_ok, sel_0, sel_1, sel_2, sel_3, sel_nil, mkL_f, mkL_t, f_int, f_add, f_eqI, f_neI, f_abs, f_i1, f_max2, f_min2, f_neg, List.getElem?_cons_succ, List.getElem?_cons_zero, List.set_cons_succ, List.set_cons_zero, List.length_cons, List.length_nil, List.cons_append, List.nil_append, List.map_cons, List.map_nil, List.zip_cons_cons, List.zip_nil_left, List.zip_nil_right, List.foldl_cons, List.foldl_nil, szl, ite_true, ite_false, Nat.zero_add, Nat.reduceAdd, Nat.reduceSub, ↓reduceIte, and_self, and_true, true_and, Bool.not_true, Bool.not_false, Bool.not_not, Bool.false_eq_true, reduceCtorEq, gN, gT, gsNil, gsCons, hName, hTup, hsNil, hsCons, Option.bind_some, Option.map_some, partO, seqv_tup, seqv_fl, decide_true, decide_false, Nat.reduceLeDiff, e_any, q1, slipD]; try rfl)) ?_
  have cp := comp_all (c := mVar 6) (g := gT 2 (gsCons (gN 21) (gsCons (gN 20) gsNil))) (vs := [21, 20]) (te := mVar 21) (e := En1 scr c ss n hs x (some (.int s0)) (some (.int t)) (some (slipD (t, q))) none none none none none none none none) (st := st3) (xs := hs) slipD (fun p => .int p.1) (d := .tup (hs.map slipD)) rfl rfl (by omega) (fun p hp => ⟨[some scr, some (.ref 1), some (.int c), some (.fl (rowsD ss)), some (.int n), some (.ref 2), some (.tup (hs.map slipD)), some (.ref 5), some x, some (.int s0), some (.int t), some (slipD (t, q)), none, none, none, none, none, none, none, none, some (.int p.2), some (.int p.1)], rfl, rfl⟩)
  rw [em] at cp
  have ii := in_ints (st := st3) (neg := false) (t := t) (ts := hs.map (·.1))
  have pt := put_ok (p := (t, q)) (rk_mach q4) (P q4) ⟨c2, q2, q3⟩
  have dS : Sa (dueO hs (t, q)) ∧ F__law_asked [.ref 2, .int 1, x, slipD (t, q)] st3 = .ok (dueO hs (t, q)) st3 := by
    unfold dueO
    by_cases z : t ∈ hs.map (·.1)
    · rw [if_pos z] at pt ⊢
      exact ⟨Sa.refused (Sd.int (by decide)), asked_refused (by unfold corr; rw [if_neg (by decide), if_pos rfl]; exact pt)⟩
    · rw [if_neg z] at pt ⊢
      refine ⟨Sa.told ?_, asked_told (by unfold corr; rw [if_neg (by decide), if_pos rfl]; exact pt)⟩
      obtain ⟨zs, z1, z2, z3⟩ := sort_put (put_nodup (p := (t, q)) H.asc z)
      unfold putO
      rw [z1]
      refine Sd.slips (fun p hp => ?_) (by rw [z2.length_eq, List.length_append, List.length_singleton]; omega)
      rcases List.mem_append.mp (z2.mem_iff.mp hp) with hp | hp
      · exact H.sm p hp
      · rw [List.mem_singleton.mp hp]
        exact ⟨by show t.natAbs < _; omega, by show q.natAbs < _; omega⟩
  refine sp_step (e1 := En1 scr c ss n hs x (some (.int s0)) (some (.int t)) (some (slipD (t, q))) (some (dueO hs (t, q))) none none none none none none none) (st1 := st3) (by
    by_cases z : t ∈ hs.map (·.1)
    · rw [decide_eq_true z] at ii
      have e0 : dueO hs (t, q) = .tup [.str "refused", .int 0] := by unfold dueO; rw [if_pos z]
      (simp only [bind_exc, toS_exc, seq_exc, seq_rt, x_var, x_c, x_bin, x_un, x_fn, x_bm, x_tst, x_notT, x_andT, x_orT, x_if, x_not, x_and, x_or, x_nil, x_cons, x_star, x_tup, x_lst, x_call, x_sl, x_oN, x_oS, x_lrg, x_trg, x_iseq, x_enum, x_zip, x_yes, x_mk, x_mt, x_fld, x_snil, x_set, x_ret, x_sif, x_drop, x_raise, x_asg, x_par, x_asgH, x_hsub, x_sfld, bind_ok, toS_ok, seq_nx, opt_ok, sel_0, sel_1, sel_2, sel_3, sel_nil, mkL_f, mkL_t, f_int, f_add, f_eqI, f_neI, f_abs, f_i1, f_max2, f_min2, f_neg, List.getElem?_cons_succ, List.getElem?_cons_zero, List.set_cons_succ, List.set_cons_zero, List.length_cons, List.length_nil, List.cons_append, List.nil_append, List.map_cons, List.map_nil, List.zip_cons_cons, List.zip_nil_left, List.zip_nil_right, List.foldl_cons, List.foldl_nil, szl, ite_true, ite_false, Nat.zero_add, Nat.reduceAdd, Nat.reduceSub, ↓reduceIte, and_self, and_true, true_and, Bool.not_true, Bool.not_false, Bool.not_not, Bool.false_eq_true, reduceCtorEq, gN, gT, gsNil, gsCons, hName, hTup, hsNil, hsCons, Option.bind_some, Option.map_some, partO, seqv_tup, seqv_fl, decide_true, decide_false, Nat.reduceLeDiff, cp, ii, e0]; try rfl)
    · rw [decide_eq_false z] at ii
      have e0 : dueO hs (t, q) = .tup [.str "told", putO hs (t, q)] := by unfold dueO; rw [if_neg z]
      have ad := add_tup (st := st3) (xs := hs.map slipD) (zs := [slipD (t, q)]) (by rw [List.length_map, List.length_singleton, sizeV]; omega)
      have so := sorted_slips (st := st3) (x := .tup (hs.map slipD ++ [slipD (t, q)])) (ys := hs.map slipD ++ [slipD (t, q)]) rfl (fun y hy => by
        rcases List.mem_append.mp hy with hy | hy
        · obtain ⟨p, _, rfl⟩ := List.mem_map.mp hy
          rfl
        · rw [List.mem_singleton.mp hy]; rfl)
      (simp only [bind_exc, toS_exc, seq_exc, seq_rt, x_var, x_c, x_bin, x_un, x_fn, x_bm, x_tst, x_notT, x_andT, x_orT, x_if, x_not, x_and, x_or, x_nil, x_cons, x_star, x_tup, x_lst, x_call, x_sl, x_oN, x_oS, x_lrg, x_trg, x_iseq, x_enum, x_zip, x_yes, x_mk, x_mt, x_fld, x_snil, x_set, x_ret, x_sif, x_drop, x_raise, x_asg, x_par, x_asgH, x_hsub, x_sfld, bind_ok, toS_ok, seq_nx, opt_ok, sel_0, sel_1, sel_2, sel_3, sel_nil, mkL_f, mkL_t, f_int, f_add, f_eqI, f_neI, f_abs, f_i1, f_max2, f_min2, f_neg, List.getElem?_cons_succ, List.getElem?_cons_zero, List.set_cons_succ, List.set_cons_zero, List.length_cons, List.length_nil, List.cons_append, List.nil_append, List.map_cons, List.map_nil, List.zip_cons_cons, List.zip_nil_left, List.zip_nil_right, List.foldl_cons, List.foldl_nil, szl, ite_true, ite_false, Nat.zero_add, Nat.reduceAdd, Nat.reduceSub, ↓reduceIte, and_self, and_true, true_and, Bool.not_true, Bool.not_false, Bool.not_not, Bool.false_eq_true, reduceCtorEq, gN, gT, gsNil, gsCons, hName, hTup, hsNil, hsCons, Option.bind_some, Option.map_some, partO, seqv_tup, seqv_fl, decide_true, decide_false, Nat.reduceLeDiff, cp, ii, e0, ad, so, t1, putO, List.map_append]; try rfl)) ?_
  have a6 := asked_told (st := st3) (v := slipD (t, q)) (x := .non) (form := 4) (kk := .ref 2) (by unfold corr; rw [if_neg (by decide), if_neg (by decide), if_neg (by decide), if_neg (by decide)]; exact cslip_ok (rk_mach q4) lk_slip (slipB_slip ⟨c2, q2, q3⟩))
  obtain ⟨s, s1, s2⟩ := Rp.two dS.1 (Sa.told (Sd.slip (p := (t, q)) (by show t.natAbs < _; omega) (by show q.natAbs < _; omega)))
  refine sp_skip (st1 := st3) (by (simp only [bind_exc, toS_exc, seq_exc, seq_rt, x_var, x_c, x_bin, x_un, x_fn, x_bm, x_tst, x_notT, x_andT, x_orT, x_if, x_not, x_and, x_or, x_nil, x_cons, x_star, x_tup, x_lst, x_call, x_sl, x_oN, x_oS, x_lrg, x_trg, x_iseq, x_enum, x_zip, x_yes, x_mk, x_mt, x_fld, x_snil, x_set, x_ret, x_sif, x_drop, x_raise, x_asg, x_par, x_asgH, x_hsub, x_sfld, bind_ok, toS_ok, seq_nx, opt_ok, sel_0, sel_1, sel_2, sel_3, sel_nil, mkL_f, mkL_t, f_int, f_add, f_eqI, f_neI, f_abs, f_i1, f_max2, f_min2, f_neg, List.getElem?_cons_succ, List.getElem?_cons_zero, List.set_cons_succ, List.set_cons_zero, List.length_cons, List.length_nil, List.cons_append, List.nil_append, List.map_cons, List.map_nil, List.zip_cons_cons, List.zip_nil_left, List.zip_nil_right, List.foldl_cons, List.foldl_nil, szl, ite_true, ite_false, Nat.zero_add, Nat.reduceAdd, Nat.reduceSub, ↓reduceIte, and_self, and_true, true_and, Bool.not_true, Bool.not_false, Bool.not_not, Bool.false_eq_true, reduceCtorEq, gN, gT, gsNil, gsCons, hName, hTup, hsNil, hsCons, Option.bind_some, Option.map_some, partO, seqv_tup, seqv_fl, decide_true, decide_false, Nat.reduceLeDiff, dS.2, a6, s2, str_same s1]; try rfl)) ?_
  exact k s0 t q st3 b2 b3 c2 c3 q2 q3 q4
end
end K03

namespace K03
open PySem L2 Mi SrtO
section
variable {st : Sto} {c n : Nat} {ss : List (List Int)} {hs gs : List (Int × Int)} {more : Sto} {x scr : D} {a9 a10 a11 a12 a13 a14 a15 : Option D}
theorem asc_wf {zs : List (Int × Int)} {k j : Nat} (h : st[k]? = some (machO c ss j)) (hw : wf st.length st) (asc : zs.Pairwise fun p q => p.1 < q.1) (ok : ∀ p ∈ zs, 0 ≤ p.1 ∧ 0 ≤ p.2 ∧ p.2 < c) (hl : zs.length < 2 ^ 18) : Hp st k c (.tup (zs.map slipD)) zs zs := ⟨List.Perm.refl _, rfl, asc, ok, hl, hw⟩
/-- one after another -/
theorem grow_run {gd : Grd} (h : st[2]? = some (machO c ss 3)) (hw : wf st.length st) (hg : grdOk gd st) : ∀ (qs zs : List (Int × Int)) (y : Option D), zs.Pairwise (fun p q => p.1 < q.1) → ((zs ++ qs).map (·.1)).Nodup → (∀ p ∈ zs ++ qs, 0 ≤ p.1 ∧ 0 ≤ p.2 ∧ p.2 < c) → zs.length + qs.length < 2 ^ 18 →
    ∃ (y' : Option D) (zs' : List (Int × Int)), fRun (gN 14) (sSet 13 (mCall F_put_in 3 0 [0, 1, 2] (aCons (mVar 5) (aCons (mVar 13) (aCons (mVar 14) aNil))) aNil)) gd (qs.map slipD) (En1 scr c ss n hs x a9 a10 a11 a12 (some (.tup (zs.map slipD))) y none none none none none) st = .nx (En1 scr c ss n hs x a9 a10 a11 a12 (some (.tup (zs'.map slipD))) y' none none none none none) st ∧ zs'.Perm (zs ++ qs) ∧ zs'.Pairwise fun p q => p.1 < q.1
  | [], zs, y, asc, _, _, _ => ⟨y, zs, fRun_end hg, by rw [List.append_nil], asc⟩
  | q :: qs, zs, y, asc, nd, ok, hl => by
    rw [List.length_cons] at hl
    have nz : q.1 ∉ zs.map (·.1) := fun hm => by
      rw [List.map_append, List.map_cons, List.nodup_append] at nd
      exact nd.2.2 _ hm _ List.mem_cons_self rfl
    have okq := ok q (List.mem_append_right _ List.mem_cons_self)
    have pt := put_ok (p := q) h (asc_wf h hw asc (fun p hp => ok p (List.mem_append_left _ hp)) (by omega)) okq
    rw [if_neg nz] at pt
    obtain ⟨zs1, z1, z2, z3⟩ := sort_put (put_nodup (p := q) asc nz)
    have e1 : putO zs q = .tup (zs1.map slipD) := by unfold putO; rw [z1]
    rw [e1] at pt
    have pm : (zs1 ++ qs).Perm (zs ++ q :: qs) := by
      have := z2.append_right qs
      rwa [List.append_assoc] at this
    obtain ⟨y', zs', h1, h2, h3⟩ := grow_run h hw hg qs zs1 (some (slipD q)) z3 (((pm.map (·.1)).nodup_iff).mpr nd) (fun p hp => ok p (pm.mem_iff.mp hp)) (by rw [z2.length_eq, List.length_append, List.length_singleton]; omega)
    refine ⟨y', zs', ?_, h2.trans pm, h3⟩
    rw [List.map_cons, fRun_nx (e1 := En1 scr c ss n hs x a9 a10 a11 a12 (some (.tup (zs.map slipD))) (some (slipD q)) none none none none none) (e2 := En1 scr c ss n hs x a9 a10 a11 a12 (some (.tup (zs1.map slipD))) (some (slipD q)) none none none none none) (st2 := st) hg rfl (by (simp only [bind_exc, toS_exc, seq_exc, seq_rt, x_var, x_c, x_bin, x_un, x_fn, x_bm, x_tst, x_notT, x_andT, x_orT, x_if, x_not, x_and, x_or, x_nil, x_cons, x_star, x_tup, x_lst, x_call, x_sl, x_oN, x_oS, x_lrg, x_trg, x_iseq, x_enum, x_zip, x_yes, x_mk, x_mt, x_fld, x_snil, x_set, x_ret, x_sif, x_drop, x_raise, x_asg, x_par, x_asgH, x_hsub, x_sfld, bind_ok, toS_ok, seq_nx, opt_ok, sel_0, sel_1, sel_2, sel_3, sel_nil, mkL_f, mkL_t, f_int, f_add, f_eqI, f_neI, f_abs, f_i1, f_max2, f_min2, f_neg, List.getElem?_cons_succ, List.getElem?_cons_zero, List.set_cons_succ, List.set_cons_zero, List.length_cons, List.length_nil, List.cons_append, List.nil_append, List.map_cons, List.map_nil, List.zip_cons_cons, List.zip_nil_left, List.zip_nil_right, List.foldl_cons, List.foldl_nil, szl, ite_true, ite_false, Nat.zero_add, Nat.reduceAdd, Nat.reduceSub, ↓reduceIte, and_self, and_true, true_and, Bool.not_true, Bool.not_false, Bool.not_not, Bool.false_eq_true, reduceCtorEq, gN, gT, gsNil, gsCons, hName, hTup, hsNil, hsCons, Option.bind_some, Option.map_some, partO, seqv_tup, seqv_fl, decide_true, decide_false, Nat.reduceLeDiff, pt]; try rfl)), h1]
theorem grow_ok {b : SM} {R : D → Sto → Prop} (H : Hs c hs gs) (h : Dr (Rk c ss (gs.map slipD) []) st)
    (k : ∀ a13 a14 a15 more st, (∀ k, wf k more) → Dr (Rk c ss (gs.map slipD ++ [.non]) more) st → SP (b (En1 scr c ss n hs x a9 a10 a11 a12 a13 a14 a15 none none none none) st) (fun _ _ => False) R) :
    SP ((sSeq (sSet 13 (mTup aNil))
    (sSeq (sFor (iSeq (mCall F__law_mixed 2 0 [0, 1] (aCons (mVar 1) (aCons (mSl false (mVar 6) oNone (oSome (mC (.int 12)))) aNil)) aNil)) (gN 14) (sSet 13 (mCall F_put_in 3 0 [0, 1, 2] (aCons (mVar 5) (aCons (mVar 13) (aCons (mVar 14) aNil))) aNil)))
    (sSeq (sIf (mTst (mBin (fEq true) (mFn fRepr (aCons (mVar 13) aNil)) (mFn fRepr (aCons (mSl false (mVar 6) oNone (oSome (mC (.int 12)))) aNil)))) (sRet (mC (.bl false))) sNil)
    (sSeq (sSet 15 (mCall F_checked_heap 2 0 [0, 1] (aCons (mVar 5) (aCons (mVar 7) aNil)) aNil))
    (sSeq (sDrop (mBM fAppend (mVar 7) (aCons (mC .non) aNil)))
    (sSeq (sIf (mTst (mBin (fEq true) (mFn fRepr (aCons (mVar 15) aNil)) (mFn fRepr (aCons (mVar 6) aNil)))) (sRet (mC (.bl false))) sNil)
    b)))))) (En1 scr c ss n hs x a9 a10 a11 a12 none none none none none none none) st) (fun _ _ => False) R := by
  have ln := H.len
  refine sp_step (e1 := En1 scr c ss n hs x a9 a10 a11 a12 (some (.tup (([] : List (Int × Int)).map slipD))) none none none none none none) (st1 := st) (by (simp only [bind_exc, toS_exc, seq_exc, seq_rt, x_var, x_c, x_bin, x_un, x_fn, x_bm, x_tst, x_notT, x_andT, x_orT, x_if, x_not, x_and, x_or, x_nil, x_cons, x_star, x_tup, x_lst, x_call, x_sl, x_oN, x_oS, x_lrg, x_trg, x_iseq, x_enum, x_zip, x_yes, x_mk, x_mt, x_fld, x_snil, x_set, x_ret, x_sif, x_drop, x_raise, x_asg, x_par, x_asgH, x_hsub, x_sfld, bind_ok, toS_ok, seq_nx, opt_ok, sel_0, sel_1, sel_2, sel_3, sel_nil, mkL_f, mkL_t, f_int, f_add, f_eqI, f_neI, f_abs, f_i1, f_max2, f_min2, f_neg, List.getElem?_cons_succ, List.getElem?_cons_zero, List.set_cons_succ, List.set_cons_zero, List.length_cons, List.length_nil, List.cons_append, List.nil_append, List.map_cons, List.map_nil, List.zip_cons_cons, List.zip_nil_left, List.zip_nil_right, List.foldl_cons, List.foldl_nil, szl, ite_true, ite_false, Nat.zero_add, Nat.reduceAdd, Nat.reduceSub, ↓reduceIte, and_self, and_true, true_and, Bool.not_true, Bool.not_false, Bool.not_not, Bool.false_eq_true, reduceCtorEq, gN, gT, gsNil, gsCons, hName, hTup, hsNil, hsCons, Option.bind_some, Option.map_some, partO, seqv_tup, seqv_fl, decide_true, decide_false, Nat.reduceLeDiff]; try rfl)) ?_
  have tk : ∀ st, fSl false (.tup (hs.map slipD)) none (some 12) st = .ok (.tup ((hs.take 12).map slipD)) st := fun st => by
    rw [sl_tup, show (12 : Int) = ((12 : Nat) : Int) from rfl, cut_take, List.map_take]
  obtain ⟨ys, st5, g1, g2, g3⟩ := mixed_ok (x := .tup ((hs.take 12).map slipD)) (j := 1) h rfl PD.slips (by omega) (by rw [List.length_map, List.length_take]; omega)
  obtain ⟨qs, rfl, gp⟩ := perm_slipsD g2
  have l7 : (Rk c ss (gs.map slipD) []).length + 3 = 7 := rfl
  rw [l7] at g1
  have g4 : Dr (Rk c ss (gs.map slipD) [.lst [], .lst (qs.map slipD)]) st5 := g3
  have wm : ∀ k, wf k [.lst [], .lst (qs.map slipD)] := fun k => by
    unfold wf
    simp only [List.all_cons, List.all_nil, noRefO, noRefs, noRefs_slips, Bool.and_self]
  have s7 : st5[7]? = some (.lst (qs.map slipD)) := g4.get (n := 5)
  obtain ⟨gd, hw, hg⟩ := walkD_of (seqv_ref s7)
  have w5 := rk_wf (fun _ => noRefs_slips) g4 (wm _)
  have ql : qs.length ≤ 12 := by rw [gp.length_eq, List.length_take]; omega
  have tok : ∀ p ∈ hs.take 12, 0 ≤ p.1 ∧ 0 ≤ p.2 ∧ p.2 < c := fun p hp => H.ok p (List.mem_of_mem_take hp)
  have tasc : (hs.take 12).Pairwise fun p q => p.1 < q.1 := H.asc.sublist (List.take_sublist _ _)
  obtain ⟨y', zs, z1, z2, z3⟩ := grow_run (scr := scr) (n := n) (hs := hs) (x := x) (a9 := a9) (a10 := a10) (a11 := a11) (a12 := a12) (rk_mach g4) w5 hg qs [] none List.Pairwise.nil (by rw [List.nil_append]; exact ((gp.map (·.1)).nodup_iff).mpr (asc_nodup tasc)) (fun p hp => tok p (gp.mem_iff.mp (by simpa using hp))) (by rw [List.length_nil]; omega)
  rw [List.nil_append] at z2
  have e1 : zs = hs.take 12 := asc_uniq (z2.trans gp) z3 tasc
  subst e1
  refine sp_step (e1 := En1 scr c ss n hs x a9 a10 a11 a12 (some (.tup ((hs.take 12).map slipD))) y' none none none none none) (st1 := st5) (by
    rw [x_for]
    have m1 : iSeq (mCall F__law_mixed 2 0 [0, 1] (aCons (mVar 1) (aCons (mSl false (mVar 6) oNone (oSome (mC (.int 12)))) aNil)) aNil) (En1 scr c ss n hs x a9 a10 a11 a12 (some (.tup (([] : List (Int × Int)).map slipD))) none none none none none none) st = .ok (qs.map slipD, gd) st5 := by
      (simp only [bind_exc, toS_exc, seq_exc, seq_rt, x_var, x_c, x_bin, x_un, x_fn, x_bm, x_tst, x_notT, x_andT, x_orT, x_if, x_not, x_and, x_or, x_nil, x_cons, x_star, x_tup, x_lst, x_call, x_sl, x_oN, x_oS, x_lrg, x_trg, x_iseq, x_enum, x_zip, x_yes, x_mk, x_mt, x_fld, x_snil, x_set, x_ret, x_sif, x_drop, x_raise, x_asg, x_par, x_asgH, x_hsub, x_sfld, bind_ok, toS_ok, seq_nx, opt_ok, sel_0, sel_1, sel_2, sel_3, sel_nil, mkL_f, mkL_t, f_int, f_add, f_eqI, f_neI, f_abs, f_i1, f_max2, f_min2, f_neg, List.getElem?_cons_succ, List.getElem?_cons_zero, List.set_cons_succ, List.set_cons_zero, List.length_cons, List.length_nil, List.cons_append, List.nil_append, List.map_cons, List.map_nil, List.zip_cons_cons, List.zip_nil_left, List.zip_nil_right, List.foldl_cons, List.foldl_nil, szl, ite_true, ite_false, Nat.zero_add, Nat.reduceAdd, Nat.reduceSub, ↓reduceIte, and_self, and_true, true_and, Bool.not_true, Bool.not_false, Bool.not_not, Bool.false_eq_true, reduceCtorEq, gN, gT, gsNil, gsCons, hName, hTup, hsNil, hsCons, Option.bind_some, Option.map_some, partO, seqv_tup, seqv_fl, decide_true, decide_false, Nat.reduceLeDiff, tk, e_mixed, g1, hw]; try rfl)
    rw [m1, toS_ok]
    exact z1) ?_
  obtain ⟨s, s1, s2⟩ := Rp.tup (Sd.slips (hs := hs.take 12) (fun p hp => H.sm p (List.mem_of_mem_take hp)) (by rw [List.length_take]; omega))
  refine sp_skip (st1 := st5) (by (simp only [bind_exc, toS_exc, seq_exc, seq_rt, x_var, x_c, x_bin, x_un, x_fn, x_bm, x_tst, x_notT, x_andT, x_orT, x_if, x_not, x_and, x_or, x_nil, x_cons, x_star, x_tup, x_lst, x_call, x_sl, x_oN, x_oS, x_lrg, x_trg, x_iseq, x_enum, x_zip, x_yes, x_mk, x_mt, x_fld, x_snil, x_set, x_ret, x_sif, x_drop, x_raise, x_asg, x_par, x_asgH, x_hsub, x_sfld, bind_ok, toS_ok, seq_nx, opt_ok, sel_0, sel_1, sel_2, sel_3, sel_nil, mkL_f, mkL_t, f_int, f_add, f_eqI, f_neI, f_abs, f_i1, f_max2, f_min2, f_neg, List.getElem?_cons_succ, List.getElem?_cons_zero, List.set_cons_succ, List.set_cons_zero, List.length_cons, List.length_nil, List.cons_append, List.nil_append, List.map_cons, List.map_nil, List.zip_cons_cons, List.zip_nil_left, List.zip_nil_right, List.foldl_cons, List.foldl_nil, szl, ite_true, ite_false, Nat.zero_add, Nat.reduceAdd, Nat.reduceSub, ↓reduceIte, and_self, and_true, true_and, Bool.not_true, Bool.not_false, Bool.not_not, Bool.false_eq_true, reduceCtorEq, gN, gT, gsNil, gsCons, hName, hTup, hsNil, hsCons, Option.bind_some, Option.map_some, partO, seqv_tup, seqv_fl, decide_true, decide_false, Nat.reduceLeDiff, tk, s2, str_same s1]; try rfl)) ?_
  have g5 := rk_given g4
  have ck := chk_ok (rk_mach g4) (H.hp (x := .ref 5) g4 (wm _) (.inl rfl))
  refine sp_step (e1 := En1 scr c ss n hs x a9 a10 a11 a12 (some (.tup ((hs.take 12).map slipD))) y' (some (.tup (hs.map slipD))) none none none none) (st1 := st5) (by (simp only [bind_exc, toS_exc, seq_exc, seq_rt, x_var, x_c, x_bin, x_un, x_fn, x_bm, x_tst, x_notT, x_andT, x_orT, x_if, x_not, x_and, x_or, x_nil, x_cons, x_star, x_tup, x_lst, x_call, x_sl, x_oN, x_oS, x_lrg, x_trg, x_iseq, x_enum, x_zip, x_yes, x_mk, x_mt, x_fld, x_snil, x_set, x_ret, x_sif, x_drop, x_raise, x_asg, x_par, x_asgH, x_hsub, x_sfld, bind_ok, toS_ok, seq_nx, opt_ok, sel_0, sel_1, sel_2, sel_3, sel_nil, mkL_f, mkL_t, f_int, f_add, f_eqI, f_neI, f_abs, f_i1, f_max2, f_min2, f_neg, List.getElem?_cons_succ, List.getElem?_cons_zero, List.set_cons_succ, List.set_cons_zero, List.length_cons, List.length_nil, List.cons_append, List.nil_append, List.map_cons, List.map_nil, List.zip_cons_cons, List.zip_nil_left, List.zip_nil_right, List.foldl_cons, List.foldl_nil, szl, ite_true, ite_false, Nat.zero_add, Nat.reduceAdd, Nat.reduceSub, ↓reduceIte, and_self, and_true, true_and, Bool.not_true, Bool.not_false, Bool.not_not, Bool.false_eq_true, reduceCtorEq, gN, gT, gsNil, gsCons, hName, hTup, hsNil, hsCons, Option.bind_some, Option.map_some, partO, seqv_tup, seqv_fl, decide_true, decide_false, Nat.reduceLeDiff, ck]; try rfl)) ?_
  have pl' : (gs.map slipD).length < sizeLine := by rw [List.length_map, H.perm.length_eq, sizeV]; omega
  have g6 := g4.set (n := 3) (o := .lst (gs.map slipD ++ [.non]))
  refine sp_step (e1 := En1 scr c ss n hs x a9 a10 a11 a12 (some (.tup ((hs.take 12).map slipD))) y' (some (.tup (hs.map slipD))) none none none none) (st1 := st5.set 5 (.lst (gs.map slipD ++ [.non]))) (by
    (simp only [bind_exc, toS_exc, seq_exc, seq_rt, x_var, x_c, x_bin, x_un, x_fn, x_bm, x_tst, x_notT, x_andT, x_orT, x_if, x_not, x_and, x_or, x_nil, x_cons, x_star, x_tup, x_lst, x_call, x_sl, x_oN, x_oS, x_lrg, x_trg, x_iseq, x_enum, x_zip, x_yes, x_mk, x_mt, x_fld, x_snil, x_set, x_ret, x_sif, x_drop, x_raise, x_asg, x_par, x_asgH, x_hsub, x_sfld, bind_ok, toS_ok, seq_nx, opt_ok, sel_0, sel_1, sel_2, sel_3, sel_nil, mkL_f, mkL_t, f_int, f_add, f_eqI, f_neI, f_abs, f_i1, f_max2, f_min2, f_neg, List.getElem?_cons_succ, List.getElem?_cons_zero, List.set_cons_succ, List.set_cons_zero, List.length_cons, List.length_nil, List.cons_append, List.nil_append, List.map_cons, List.map_nil, List.zip_cons_cons, List.zip_nil_left, List.zip_nil_right, List.foldl_cons, List.foldl_nil, szl, ite_true, ite_false, Nat.zero_add, Nat.reduceAdd, Nat.reduceSub, ↓reduceIte, and_self, and_true, true_and, Bool.not_true, Bool.not_false, Bool.not_not, Bool.false_eq_true, reduceCtorEq, gN, gT, gsNil, gsCons, hName, hTup, hsNil, hsCons, Option.bind_some, Option.map_some, partO, seqv_tup, seqv_fl, decide_true, decide_false, Nat.reduceLeDiff, isL_ref g5, app_of (x := .non) g5 pl']; try rfl)) ?_
  obtain ⟨s, s1, s2⟩ := Rp.tup (Sd.slips (hs := hs) H.sm (by omega))
  refine sp_skip (st1 := st5.set 5 (.lst (gs.map slipD ++ [.non]))) (by (simp only [bind_exc, toS_exc, seq_exc, seq_rt, x_var, x_c, x_bin, x_un, x_fn, x_bm, x_tst, x_notT, x_andT, x_orT, x_if, x_not, x_and, x_or, x_nil, x_cons, x_star, x_tup, x_lst, x_call, x_sl, x_oN, x_oS, x_lrg, x_trg, x_iseq, x_enum, x_zip, x_yes, x_mk, x_mt, x_fld, x_snil, x_set, x_ret, x_sif, x_drop, x_raise, x_asg, x_par, x_asgH, x_hsub, x_sfld, bind_ok, toS_ok, seq_nx, opt_ok, sel_0, sel_1, sel_2, sel_3, sel_nil, mkL_f, mkL_t, f_int, f_add, f_eqI, f_neI, f_abs, f_i1, f_max2, f_min2, f_neg, List.getElem?_cons_succ, List.getElem?_cons_zero, List.set_cons_succ, List.set_cons_zero, List.length_cons, List.length_nil, List.cons_append, List.nil_append, List.map_cons, List.map_nil, List.zip_cons_cons, List.zip_nil_left, List.zip_nil_right, List.foldl_cons, List.foldl_nil, szl, ite_true, ite_false, Nat.zero_add, Nat.reduceAdd, Nat.reduceSub, ↓reduceIte, and_self, and_true, true_and, Bool.not_true, Bool.not_false, Bool.not_not, Bool.false_eq_true, reduceCtorEq, gN, gT, gsNil, gsCons, hName, hTup, hsNil, hsCons, Option.bind_some, Option.map_some, partO, seqv_tup, seqv_fl, decide_true, decide_false, Nat.reduceLeDiff, s2, str_same s1]; try rfl)) ?_
  exact k _ _ _ _ _ wm g6
end
end K03

namespace K03
open PySem L2 Mi SrtO
section
variable {st : Sto} {c n : Nat} {ss : List (List Int)} {hs gs : List (Int × Int)} {more : Sto} {x scr : D} {s t : Int} {a11 a12 a13 a14 a15 : Option D}
theorem head_ix (hne : hs ≠ []) {st : Sto} : fIxA (.tup (hs.map slipD)) (.int 0) st = .ok (slipD (hs.getD 0 (0, 0))) st := by
  have hl := List.length_pos_iff.mpr hne
  refine ix_nat (i := 0) rfl ?_
  rw [List.getElem?_map, List.getElem?_eq_getElem hl, getD_at hl]; rfl
theorem strange_ok {rest st : Sto} (h : Dr rest st) : ∃ d st', F__law_of [.ref 1, .fl [.int (ss.length : Nat), .int (-1), .non, .bl true, .str "0"]] st = .ok d st' ∧ Dr rest st' ∧ ixD ss.length d = false ∧ ∀ st, Tg st d := by
  obtain ⟨d, st', h1, h2, h3⟩ := of_ok (x := .fl [.int (ss.length : Nat), .int (-1), .non, .bl true, .str "0"]) h (fun _ _ => rfl) (by simp) (by simp)
  refine ⟨d, st', h1, h3, ?_, ?_⟩
  · simp only [List.mem_cons, List.not_mem_nil, or_false] at h2
    rcases h2 with rfl | rfl | rfl | rfl | rfl
    · simp [ixD]
    all_goals first | rfl | simp [ixD]
  · simp only [List.mem_cons, List.not_mem_nil, or_false] at h2
    rcases h2 with rfl | rfl | rfl | rfl | rfl
    all_goals exact fun st => ⟨_, rfl⟩
theorem end_ok (hM : Mach c ss) (hz : ss.length ≤ 10) (H : Hs c hs gs) (hm : ∀ k, wf k more) (h : Dr (Rk c ss (gs.map slipD ++ [.non]) more) st) (h0 : 0 ≤ s) (h1 : s < ss.length) :
    SP ((sSeq (sPar [16, 17] (aCons (mCall F__law_bad_slip 2 0 [0, 1] (aCons (mVar 1) (aCons (mVar 2) aNil)) aNil) (aCons (mCall F__law_any 2 0 [0, 1] (aCons (mVar 1) (aCons (mBin (fAdd false) (mFn fLen (aCons (mVar 6) aNil)) (mC (.int 1))) aNil)) aNil) aNil)))
    (sSeq (sSet 18 (mBin (fAdd false) (mBin (fAdd false) (mFn (fList false) (aCons (mSl false (mVar 6) oNone (oSome (mVar 17))) aNil)) (mLst false (aCons (mVar 16) aNil))) (mFn (fList false) (aCons (mSl false (mVar 6) (oSome (mVar 17)) oNone) aNil))))
    (sSeq (sIf (mTst (mBin (fEq true) (mFn fRepr (aCons (mBin (fAdd false) (mCall F__law_parts_at 3 0 [0, 1, 2] (aCons (mVar 5) (aCons (mVar 18) (aCons (mVar 10) aNil))) aNil) (mCall F__law_parts_at 3 0 [0, 1, 2] (aCons (mVar 5) (aCons (mC .non) (aCons (mVar 10) aNil))) aNil)) aNil)) (mFn fRepr (aCons (mBin (fAdd false) (mBin (fMul false) (mLst false (aCons (mTup (aCons (mC (.str "slip")) (aCons (mVar 17) aNil))) aNil)) (mC (.int 2))) (mBin (fMul false) (mLst false (aCons (mTup (aCons (mC (.str "slip")) (aCons (mC (.int 0)) aNil))) aNil)) (mC (.int 2)))) aNil)))) (sRet (mC (.bl false))) sNil)
    (sSeq (sIf (mTst (mBin (fEq true) (mFn fRepr (aCons (mLst false (aCons (mCall F__law_asked 4 0 [0, 1, 2, 3] (aCons (mVar 5) (aCons (mC (.int 0)) (aCons (mVar 18) (aCons (mC .non) aNil)))) aNil) (aCons (mCall F__law_asked 4 0 [0, 1, 2, 3] (aCons (mVar 5) (aCons (mC (.int 4)) (aCons (mC .non) (aCons (mVar 16) aNil)))) aNil) aNil))) aNil)) (mFn fRepr (aCons (mLst false (aCons (mTup (aCons (mC (.str "slip")) (aCons (mVar 17) aNil))) (aCons (mTup (aCons (mC (.str "slip")) (aCons (mC (.int 0)) aNil))) aNil))) aNil)))) (sRet (mC (.bl false))) sNil)
    (sSeq (sIf (mTst (mBin (fEq true) (mFn fRepr (aCons (mLst false (aCons (mCall F__law_asked 4 0 [0, 1, 2, 3] (aCons (mVar 5) (aCons (mC (.int 1)) (aCons (mVar 18) (aCons (mVar 16) aNil)))) aNil) (aCons (mCall F__law_asked 4 0 [0, 1, 2, 3] (aCons (mVar 5) (aCons (mC (.int 1)) (aCons (mVar 6) (aCons (mVar 16) aNil)))) aNil) aNil))) aNil)) (mFn fRepr (aCons (mLst false (aCons (mTup (aCons (mC (.str "slip")) (aCons (mVar 17) aNil))) (aCons (mTup (aCons (mC (.str "slip")) (aCons (mC (.int 0)) aNil))) aNil))) aNil)))) (sRet (mC (.bl false))) sNil)
    (sSeq (sSet 19 (mCall F__law_of 2 0 [0, 1] (aCons (mVar 1) (aCons (mLst false (aCons (mFn fLen (aCons (mVar 3) aNil)) (aCons (mUn fNeg (mC (.int 1))) (aCons (mC .non) (aCons (mC (.bl true)) (aCons (mC (.str "0")) aNil)))))) aNil)) aNil))
    (sSeq (sIf (mTst (mBin (fEq true) (mFn fRepr (aCons (mLst false (aCons (mCall F__law_asked 4 0 [0, 1, 2, 3] (aCons (mVar 5) (aCons (mC (.int 3)) (aCons (mVar 18) (aCons (mVar 19) aNil)))) aNil) (aCons (mCall F__law_asked 4 0 [0, 1, 2, 3] (aCons (mVar 5) (aCons (mC (.int 3)) (aCons (mVar 18) (aCons (mVar 9) aNil)))) aNil) aNil))) aNil)) (mFn fRepr (aCons (mLst false (aCons (mTup (aCons (mC (.str "refused")) (aCons (mC (.int 0)) aNil))) (aCons (mTup (aCons (mC (.str "slip")) (aCons (mVar 17) aNil))) aNil))) aNil)))) (sRet (mC (.bl false))) sNil)
    (sSeq (sIf (mAndT (mTst (mBin (fEq true) (mVar 6) (mTup aNil))) (mTst (mBin (fEq true) (mFn fRepr (aCons (mCall F__law_asked 4 0 [0, 1, 2, 3] (aCons (mVar 5) (aCons (mC (.int 2)) (aCons (mBin (fAdd false) (mVar 6) (mTup (aCons (mBin fIxA (mVar 6) (mC (.int 0))) aNil))) (aCons (mC .non) aNil)))) aNil) aNil)) (mFn fRepr (aCons (mTup (aCons (mC (.str "slip")) (aCons (mFn fLen (aCons (mVar 6) aNil)) aNil))) aNil))))) (sRet (mC (.bl false))) sNil)
    (sRet (mBin (fEq false) (mFn fRepr (aCons (mCall F__law_asked 4 0 [0, 1, 2, 3] (aCons (mVar 5) (aCons (mC (.int 0)) (aCons (mCall F__law_of 2 0 [0, 1] (aCons (mVar 1) (aCons (mLst false (aCons (mC .non) (aCons (mC (.int 7)) (aCons (mC (.str "00")) (aCons mDk aNil))))) aNil)) aNil) (aCons (mC .non) aNil)))) aNil) aNil)) (mFn fRepr (aCons (mTup (aCons (mC (.str "slip")) (aCons (mC (.int 0)) aNil))) aNil)))))))))))) (En1 scr c ss n hs x (some (.int s)) (some (.int t)) a11 a12 a13 a14 a15 none none none none) st) (fun _ _ => False) (fun d _ => d = .bl true) := by
  have ln := H.len
  have c5 := H.c5
  have nr : ∀ k, noRefs k (gs.map slipD ++ [.non]) = true := fun k => by
    rw [noRefs_all, List.all_append, ← noRefs_all, noRefs_slips]; rfl
  obtain ⟨bad, st2, b1, b2, b3, lk⟩ := bad_ok (c := c) h
  obtain ⟨q, st3, q1, q2, q3, q4⟩ := any_ok b2 (show (0 : Int) < (hs.length : Int) + 1 by omega) (by omega)
  obtain ⟨q, rfl⟩ := Int.eq_ofNat_of_zero_le q2
  have hl : ∀ st, fLen [.tup (hs.map slipD)] st = .ok (.int hs.length) st := fun st => by rw [len_of (ys := hs.map slipD) rfl, List.length_map]
  refine sp_step (e1 := En1 scr c ss n hs x (some (.int s)) (some (.int t)) a11 a12 a13 a14 a15 (some bad) (some (.int q)) none none) (st1 := st3) (by (simp only [bind_exc, toS_exc, seq_exc, seq_rt, x_var, x_c, x_bin, x_un, x_fn, x_bm, x_tst, x_notT, x_andT, x_orT, x_if, x_not, x_and, x_or, x_nil, x_cons, x_star, x_tup, x_lst, x_call, x_sl, x_oN, x_oS, x_lrg, x_trg, x_iseq, x_enum, x_zip, x_yes, x_mk, x_mt, x_fld, x_snil, x_set, x_ret, x_sif, x_drop, x_raise, x_asg, x_par, x_asgH, x_hsub, x_sfld, bind_ok, toS_ok, seq_nx, opt_ok, sel_0, sel_1, sel_2, sel_3, sel_nil, mkL_f, mkL_t, f_int, f_add, f_eqI, f_neI, f_abs, f_i1, f_max2, f_min2, f_neg, List.getElem?_cons_succ, List.getElem?_cons_zero, List.set_cons_succ, List.set_cons_zero, List.length_cons, List.length_nil, List.cons_append, List.nil_append, List.map_cons, List.map_nil, List.zip_cons_cons, List.zip_nil_left, List.zip_nil_right, List.foldl_cons, List.foldl_nil, szl, ite_true, ite_false, Nat.zero_add, Nat.reduceAdd, Nat.reduceSub, ↓reduceIte, and_self, and_true, true_and, Bool.not_true, Bool.not_false, Bool.not_not, Bool.false_eq_true, reduceCtorEq, gN, gT, gsNil, gsCons, hName, hTup, hsNil, hsCons, Option.bind_some, Option.map_some, partO, seqv_tup, seqv_fl, decide_true, decide_false, Nat.reduceLeDiff, b1, hl, e_any, q1]; try rfl)) ?_
  have lf : ∀ (ys : List D) (st : Sto), fList false [.tup ys] st = .ok (.fl ys) st := fun ys st => list_fl rfl
  have ad1 := add_lst (st := st3) (a := .fl ((hs.map slipD).take q)) (b := .fl [bad]) rfl rfl (by rw [List.length_take, List.length_map, List.length_singleton, sizeV]; omega)
  have ad2 := add_lst (st := st3) (a := .fl ((hs.map slipD).take q ++ [bad])) (b := .fl ((hs.map slipD).drop q)) rfl rfl (by rw [List.length_append, List.length_take, List.length_drop, List.length_map, List.length_singleton, sizeV]; omega)
  have er : (hs.map slipD).take q ++ [bad] ++ (hs.map slipD).drop q = (hs.take q).map slipD ++ bad :: (hs.drop q).map slipD := by rw [List.append_assoc, List.map_take, List.map_drop]; rfl
  rw [er] at ad2
  obtain ⟨rows, hr⟩ : ∃ rows, rows = D.fl ((hs.take q).map slipD ++ bad :: (hs.drop q).map slipD) := ⟨_, rfl⟩
  rw [← hr] at ad2
  refine sp_step (e1 := En1 scr c ss n hs x (some (.int s)) (some (.int t)) a11 a12 a13 a14 a15 (some bad) (some (.int q)) (some rows) none) (st1 := st3) (by
    (simp only [bind_exc, toS_exc, seq_exc, seq_rt, x_var, x_c, x_bin, x_un, x_fn, x_bm, x_tst, x_notT, x_andT, x_orT, x_if, x_not, x_and, x_or, x_nil, x_cons, x_star, x_tup, x_lst, x_call, x_sl, x_oN, x_oS, x_lrg, x_trg, x_iseq, x_enum, x_zip, x_yes, x_mk, x_mt, x_fld, x_snil, x_set, x_ret, x_sif, x_drop, x_raise, x_asg, x_par, x_asgH, x_hsub, x_sfld, bind_ok, toS_ok, seq_nx, opt_ok, sel_0, sel_1, sel_2, sel_3, sel_nil, mkL_f, mkL_t, f_int, f_add, f_eqI, f_neI, f_abs, f_i1, f_max2, f_min2, f_neg, List.getElem?_cons_succ, List.getElem?_cons_zero, List.set_cons_succ, List.set_cons_zero, List.length_cons, List.length_nil, List.cons_append, List.nil_append, List.map_cons, List.map_nil, List.zip_cons_cons, List.zip_nil_left, List.zip_nil_right, List.foldl_cons, List.foldl_nil, szl, ite_true, ite_false, Nat.zero_add, Nat.reduceAdd, Nat.reduceSub, ↓reduceIte, and_self, and_true, true_and, Bool.not_true, Bool.not_false, Bool.not_not, Bool.false_eq_true, reduceCtorEq, gN, gT, gsNil, gsCons, hName, hTup, hsNil, hsCons, Option.bind_some, Option.map_some, partO, seqv_tup, seqv_fl, decide_true, decide_false, Nat.reduceLeDiff, sl_tup, cut_take, cut_drop, lf, ad1, ad2]; try rfl)) ?_
  have hq : q ≤ hs.length := by omega
  have w : ∀ {st more}, (∀ k, wf k more) → Dr (Rk c ss (gs.map slipD ++ [.non]) more) st → wf st.length st := fun hm h => rk_wf nr h (hm _)
  have stop : ∀ {st more}, (∀ k, wf k more) → Dr (Rk c ss (gs.map slipD ++ [.non]) more) st → F_checked_heap [.ref 2, rows] st = .exc "InvalidSlip" (some (.int q)) st := fun {st more} hm h => by
    rw [hr]
    have := heap_stops (x := .fl ((hs.take q).map slipD ++ bad :: (hs.drop q).map slipD)) (pre := hs.take q) (tl := (hs.drop q).map slipD) (rk_mach h) rfl (fun p hp => H.ok p (List.mem_of_mem_take hp)) (asc_nodup (H.asc.sublist (List.take_sublist _ _))) (by rw [List.length_take, sizeV]; omega) (w hm h) (fun o => lk _) (.inl b3)
    rwa [List.length_take, Nat.min_eq_left hq] at this
  have stopN : ∀ st, F_checked_heap [.ref 2, .non] st = .exc "InvalidSlip" (some (.int 0)) st := fun st => heap_none (t := "NoneType") rfl rfl
  -- parts
  have snoc : ∀ {st more} (o : MO), Dr (Rk c ss (gs.map slipD ++ [.non]) more) st → Dr (Rk c ss (gs.map slipD ++ [.non]) (more ++ [o])) (st ++ [o]) := fun o h => h.app [o]
  have wsn : ∀ {more} (l : List D), (∀ k, noRefs k l = true) → (∀ k, wf k more) → ∀ k, wf k (more ++ [.lst l]) := fun l hl hm k => by
    have := hm k
    unfold wf at *
    simp only [List.all_append, this, List.all_cons, List.all_nil, noRefO, hl, Bool.and_self]
  have rl : ∀ (i : Int) k, noRefs k [.tup [.str "slip", .int i], .tup [.str "slip", .int i]] = true := fun i k => by simp only [noRefs, noRef, Bool.and_self]
  have rl1 : ∀ (i : Int) k, noRefs k [.tup [.str "slip", .int i]] = true := fun i k => by simp only [noRefs, noRef, Bool.and_self]
  have p1 := parts_bad (t := .int t) (stop (wsn [] (fun _ => rfl) hm) (snoc _ q4)) (stop (wsn _ (rl1 q) hm) (snoc _ q4))
  have m1 := wsn _ (rl q) hm
  have g1 := snoc (.lst [.tup [.str "slip", .int q], .tup [.str "slip", .int q]]) q4
  have p2 := parts_bad (st := st3 ++ [.lst [.tup [.str "slip", .int q], .tup [.str "slip", .int q]]]) (x := .non) (i := 0) (t := .int t) (k := 2) (stopN _) (stopN _)
  have m2 := wsn _ (rl 0) m1
  have g2 := snoc (.lst [.tup [.str "slip", .int 0], .tup [.str "slip", .int 0]]) g1
  obtain ⟨st4, e4⟩ : ∃ st4, st4 = st3 ++ [.lst [.tup [.str "slip", .int q], .tup [.str "slip", .int q]]] ++ [.lst [.tup [.str "slip", .int 0], .tup [.str "slip", .int 0]]] := ⟨_, rfl⟩
  have ad3 := add_lst (st := st4) (a := .ref st3.length) (b := .ref (st3 ++ [MO.lst [.tup [.str "slip", .int q], .tup [.str "slip", .int q]]]).length) (xs := [.tup [.str "slip", .int q], .tup [.str "slip", .int q]]) (zs := [.tup [.str "slip", .int 0], .tup [.str "slip", .int 0]]) (lsts_ref (by
    rw [e4, List.append_assoc]; exact Mi.at0)) (lsts_ref (by rw [e4]; exact at_end)) (by show (4 : Nat) ≤ 16777216; decide)
  have ml : ∀ (d : D) (st : Sto), fMul false (.fl [d]) (.int 2) st = .ok (.fl [d, d]) st := fun d st => mul_fl (xs := [d]) (by omega) (by omega) (by show (2 : Nat) ≤ 16777216; decide)
  have ad4 : ∀ a b : D, fAdd false (.fl [a, a]) (.fl [b, b]) st4 = .ok (.fl [a, a, b, b]) st4 := fun a b => add_lst (xs := [a, a]) (zs := [b, b]) rfl rfl (by show (4 : Nat) ≤ 16777216; decide)
  have sq := Sd.int (i := (q : Int)) (by omega)
  have s0 := Sd.int (i := 0) (by decide)
  obtain ⟨z, z1, z2⟩ := Rp.four (Sa.slip sq) (Sa.slip s0)
  rw [← e4] at p2 g2
  rw [List.cons_append, List.cons_append, List.nil_append] at ad3
  refine sp_skip (st1 := st4) (by (simp only [bind_exc, toS_exc, seq_exc, seq_rt, x_var, x_c, x_bin, x_un, x_fn, x_bm, x_tst, x_notT, x_andT, x_orT, x_if, x_not, x_and, x_or, x_nil, x_cons, x_star, x_tup, x_lst, x_call, x_sl, x_oN, x_oS, x_lrg, x_trg, x_iseq, x_enum, x_zip, x_yes, x_mk, x_mt, x_fld, x_snil, x_set, x_ret, x_sif, x_drop, x_raise, x_asg, x_par, x_asgH, x_hsub, x_sfld, bind_ok, toS_ok, seq_nx, opt_ok, sel_0, sel_1, sel_2, sel_3, sel_nil, mkL_f, mkL_t, f_int, f_add, f_eqI, f_neI, f_abs, f_i1, f_max2, f_min2, f_neg, List.getElem?_cons_succ, List.getElem?_cons_zero, List.set_cons_succ, List.set_cons_zero, List.length_cons, List.length_nil, List.cons_append, List.nil_append, List.map_cons, List.map_nil, List.zip_cons_cons, List.zip_nil_left, List.zip_nil_right, List.foldl_cons, List.foldl_nil, szl, ite_true, ite_false, Nat.zero_add, Nat.reduceAdd, Nat.reduceSub, ↓reduceIte, and_self, and_true, true_and, Bool.not_true, Bool.not_false, Bool.not_not, Bool.false_eq_true, reduceCtorEq, gN, gT, gsNil, gsCons, hName, hTup, hsNil, hsCons, Option.bind_some, Option.map_some, partO, seqv_tup, seqv_fl, decide_true, decide_false, Nat.reduceLeDiff, p1, p2, ad3, ml, ad4, z2, str_same z1]; try rfl)) ?_
  obtain ⟨z, z1, z2⟩ := Rp.two (Sa.slip sq) (Sa.slip s0)
  have stp := stop m2 g2
  have mch := rk_mach g2
  have ask0 := asked_bad (v := .non) (form := 0) stp (.inl rfl)
  have ask4 := asked_slip (st := st4) (v := bad) (x := .non) (form := 4) (kk := .ref 2) (i := 0) (by unfold corr; rw [if_neg (by decide), if_neg (by decide), if_neg (by decide), if_neg (by decide)]; exact cslip_bad mch (lk _) b3)
  refine sp_skip (st1 := st4) (by (simp only [bind_exc, toS_exc, seq_exc, seq_rt, x_var, x_c, x_bin, x_un, x_fn, x_bm, x_tst, x_notT, x_andT, x_orT, x_if, x_not, x_and, x_or, x_nil, x_cons, x_star, x_tup, x_lst, x_call, x_sl, x_oN, x_oS, x_lrg, x_trg, x_iseq, x_enum, x_zip, x_yes, x_mk, x_mt, x_fld, x_snil, x_set, x_ret, x_sif, x_drop, x_raise, x_asg, x_par, x_asgH, x_hsub, x_sfld, bind_ok, toS_ok, seq_nx, opt_ok, sel_0, sel_1, sel_2, sel_3, sel_nil, mkL_f, mkL_t, f_int, f_add, f_eqI, f_neI, f_abs, f_i1, f_max2, f_min2, f_neg, List.getElem?_cons_succ, List.getElem?_cons_zero, List.set_cons_succ, List.set_cons_zero, List.length_cons, List.length_nil, List.cons_append, List.nil_append, List.map_cons, List.map_nil, List.zip_cons_cons, List.zip_nil_left, List.zip_nil_right, List.foldl_cons, List.foldl_nil, szl, ite_true, ite_false, Nat.zero_add, Nat.reduceAdd, Nat.reduceSub, ↓reduceIte, and_self, and_true, true_and, Bool.not_true, Bool.not_false, Bool.not_not, Bool.false_eq_true, reduceCtorEq, gN, gT, gsNil, gsCons, hName, hTup, hsNil, hsCons, Option.bind_some, Option.map_some, partO, seqv_tup, seqv_fl, decide_true, decide_false, Nat.reduceLeDiff, ask0, ask4, z2, str_same z1]; try rfl)) ?_
  have hpH : Hp st4 2 c (.tup (hs.map slipD)) hs hs := asc_wf mch (w m2 g2) H.asc H.ok (by omega)
  have ask1 := asked_bad (v := bad) (form := 1) stp (.inr (.inl rfl))
  have ask1b := asked_slip (st := st4) (v := bad) (x := .tup (hs.map slipD)) (form := 1) (kk := .ref 2) (i := 0) (by unfold corr; rw [if_neg (by decide), if_pos rfl]; exact put_slip mch hpH (lk _) b3)
  refine sp_skip (st1 := st4) (by (simp only [bind_exc, toS_exc, seq_exc, seq_rt, x_var, x_c, x_bin, x_un, x_fn, x_bm, x_tst, x_notT, x_andT, x_orT, x_if, x_not, x_and, x_or, x_nil, x_cons, x_star, x_tup, x_lst, x_call, x_sl, x_oN, x_oS, x_lrg, x_trg, x_iseq, x_enum, x_zip, x_yes, x_mk, x_mt, x_fld, x_snil, x_set, x_ret, x_sif, x_drop, x_raise, x_asg, x_par, x_asgH, x_hsub, x_sfld, bind_ok, toS_ok, seq_nx, opt_ok, sel_0, sel_1, sel_2, sel_3, sel_nil, mkL_f, mkL_t, f_int, f_add, f_eqI, f_neI, f_abs, f_i1, f_max2, f_min2, f_neg, List.getElem?_cons_succ, List.getElem?_cons_zero, List.set_cons_succ, List.set_cons_zero, List.length_cons, List.length_nil, List.cons_append, List.nil_append, List.map_cons, List.map_nil, List.zip_cons_cons, List.zip_nil_left, List.zip_nil_right, List.foldl_cons, List.foldl_nil, szl, ite_true, ite_false, Nat.zero_add, Nat.reduceAdd, Nat.reduceSub, ↓reduceIte, and_self, and_true, true_and, Bool.not_true, Bool.not_false, Bool.not_not, Bool.false_eq_true, reduceCtorEq, gN, gT, gsNil, gsCons, hName, hTup, hsNil, hsCons, Option.bind_some, Option.map_some, partO, seqv_tup, seqv_fl, decide_true, decide_false, Nat.reduceLeDiff, ask1, ask1b, z2, str_same z1]; try rfl)) ?_
  obtain ⟨sg, st5, k1, k2, k3, k4⟩ := strange_ok (ss := ss) g2
  have lens : ∀ st : Sto, fLen [.fl (rowsD ss)] st = .ok (.int ss.length) st := fun st => by rw [len_of (ys := rowsD ss) rfl]; unfold rowsD; rw [List.length_map]
  refine sp_step (e1 := En1 scr c ss n hs x (some (.int s)) (some (.int t)) a11 a12 a13 a14 a15 (some bad) (some (.int q)) (some rows) (some sg)) (st1 := st5) (by
    (simp only [bind_exc, toS_exc, seq_exc, seq_rt, x_var, x_c, x_bin, x_un, x_fn, x_bm, x_tst, x_notT, x_andT, x_orT, x_if, x_not, x_and, x_or, x_nil, x_cons, x_star, x_tup, x_lst, x_call, x_sl, x_oN, x_oS, x_lrg, x_trg, x_iseq, x_enum, x_zip, x_yes, x_mk, x_mt, x_fld, x_snil, x_set, x_ret, x_sif, x_drop, x_raise, x_asg, x_par, x_asgH, x_hsub, x_sfld, bind_ok, toS_ok, seq_nx, opt_ok, sel_0, sel_1, sel_2, sel_3, sel_nil, mkL_f, mkL_t, f_int, f_add, f_eqI, f_neI, f_abs, f_i1, f_max2, f_min2, f_neg, List.getElem?_cons_succ, List.getElem?_cons_zero, List.set_cons_succ, List.set_cons_zero, List.length_cons, List.length_nil, List.cons_append, List.nil_append, List.map_cons, List.map_nil, List.zip_cons_cons, List.zip_nil_left, List.zip_nil_right, List.foldl_cons, List.foldl_nil, szl, ite_true, ite_false, Nat.zero_add, Nat.reduceAdd, Nat.reduceSub, ↓reduceIte, and_self, and_true, true_and, Bool.not_true, Bool.not_false, Bool.not_not, Bool.false_eq_true, reduceCtorEq, gN, gT, gsNil, gsCons, hName, hTup, hsNil, hsCons, Option.bind_some, Option.map_some, partO, seqv_tup, seqv_fl, decide_true, decide_false, Nat.reduceLeDiff, lens, k1]; try rfl)) ?_
  have mch5 := rk_mach k2
  have ask3 := asked_refused (st := st5) (v := sg) (x := rows) (form := 3) (kk := .ref 2) (i := 0) (by unfold corr; rw [if_neg (by decide), if_neg (by decide), if_neg (by decide), if_pos rfl]; exact truth_none mch5 (k4 _) k3)
  have ask3b := asked_slip (st := st5) (v := .int s) (x := rows) (form := 3) (kk := .ref 2) (i := q) (by unfold corr; rw [if_neg (by decide), if_neg (by decide), if_neg (by decide), if_pos rfl]; exact truth_exc mch5 ⟨h0, h1⟩ (stop m2 k2))
  obtain ⟨z, z1, z2⟩ := Rp.two (Sa.refused s0) (Sa.slip sq)
  refine sp_skip (st1 := st5) (by (simp only [bind_exc, toS_exc, seq_exc, seq_rt, x_var, x_c, x_bin, x_un, x_fn, x_bm, x_tst, x_notT, x_andT, x_orT, x_if, x_not, x_and, x_or, x_nil, x_cons, x_star, x_tup, x_lst, x_call, x_sl, x_oN, x_oS, x_lrg, x_trg, x_iseq, x_enum, x_zip, x_yes, x_mk, x_mt, x_fld, x_snil, x_set, x_ret, x_sif, x_drop, x_raise, x_asg, x_par, x_asgH, x_hsub, x_sfld, bind_ok, toS_ok, seq_nx, opt_ok, sel_0, sel_1, sel_2, sel_3, sel_nil, mkL_f, mkL_t, f_int, f_add, f_eqI, f_neI, f_abs, f_i1, f_max2, f_min2, f_neg, List.getElem?_cons_succ, List.getElem?_cons_zero, List.set_cons_succ, List.set_cons_zero, List.length_cons, List.length_nil, List.cons_append, List.nil_append, List.map_cons, List.map_nil, List.zip_cons_cons, List.zip_nil_left, List.zip_nil_right, List.foldl_cons, List.foldl_nil, szl, ite_true, ite_false, Nat.zero_add, Nat.reduceAdd, Nat.reduceSub, ↓reduceIte, and_self, and_true, true_and, Bool.not_true, Bool.not_false, Bool.not_not, Bool.false_eq_true, reduceCtorEq, gN, gT, gsNil, gsCons, hName, hTup, hsNil, hsCons, Option.bind_some, Option.map_some, partO, seqv_tup, seqv_fl, decide_true, decide_false, Nat.reduceLeDiff, ask3, ask3b, z2, str_same z1]; try rfl)) ?_
  obtain ⟨z, z1, z2⟩ := Rp.slip (Sd.int (i := (hs.length : Int)) (by omega))
  refine sp_skip (st1 := st5) (by
    by_cases q0 : hs = []
    · (simp only [bind_exc, toS_exc, seq_exc, seq_rt, x_var, x_c, x_bin, x_un, x_fn, x_bm, x_tst, x_notT, x_andT, x_orT, x_if, x_not, x_and, x_or, x_nil, x_cons, x_star, x_tup, x_lst, x_call, x_sl, x_oN, x_oS, x_lrg, x_trg, x_iseq, x_enum, x_zip, x_yes, x_mk, x_mt, x_fld, x_snil, x_set, x_ret, x_sif, x_drop, x_raise, x_asg, x_par, x_asgH, x_hsub, x_sfld, bind_ok, toS_ok, seq_nx, opt_ok, sel_0, sel_1, sel_2, sel_3, sel_nil, mkL_f, mkL_t, f_int, f_add, f_eqI, f_neI, f_abs, f_i1, f_max2, f_min2, f_neg, List.getElem?_cons_succ, List.getElem?_cons_zero, List.set_cons_succ, List.set_cons_zero, List.length_cons, List.length_nil, List.cons_append, List.nil_append, List.map_cons, List.map_nil, List.zip_cons_cons, List.zip_nil_left, List.zip_nil_right, List.foldl_cons, List.foldl_nil, szl, ite_true, ite_false, Nat.zero_add, Nat.reduceAdd, Nat.reduceSub, ↓reduceIte, and_self, and_true, true_and, Bool.not_true, Bool.not_false, Bool.not_not, Bool.false_eq_true, reduceCtorEq, gN, gT, gsNil, gsCons, hName, hTup, hsNil, hsCons, Option.bind_some, Option.map_some, partO, seqv_tup, seqv_fl, decide_true, decide_false, Nat.reduceLeDiff, slips_ne, decide_eq_true q0]; try rfl)
    · have i0 := head_ix (st := st5) q0
      have hl0 := List.length_pos_iff.mpr q0
      have m0 : hs.getD 0 (0, 0) ∈ hs := by rw [getD_at hl0]; exact List.getElem_mem hl0
      have stop2 := heap_stops (x := .tup (hs.map slipD ++ [slipD (hs.getD 0 (0, 0))])) (pre := hs) (b := slipD (hs.getD 0 (0, 0))) (tl := []) mch5 rfl H.ok (asc_nodup H.asc) (by rw [sizeV]; omega) (w m2 k2) (fun o => lk_slip) (.inr ⟨slipB_slip (H.ok _ m0), _, _, rfl, List.mem_map.mpr ⟨_, m0, rfl⟩⟩)
      have a2 := asked_bad (v := .non) (form := 2) stop2 (.inr (.inr rfl))
      have ad := add_tup (st := st5) (xs := hs.map slipD) (zs := [slipD (hs.getD 0 (0, 0))]) (by rw [List.length_map, List.length_singleton, sizeV]; omega)
      (simp only [bind_exc, toS_exc, seq_exc, seq_rt, x_var, x_c, x_bin, x_un, x_fn, x_bm, x_tst, x_notT, x_andT, x_orT, x_if, x_not, x_and, x_or, x_nil, x_cons, x_star, x_tup, x_lst, x_call, x_sl, x_oN, x_oS, x_lrg, x_trg, x_iseq, x_enum, x_zip, x_yes, x_mk, x_mt, x_fld, x_snil, x_set, x_ret, x_sif, x_drop, x_raise, x_asg, x_par, x_asgH, x_hsub, x_sfld, bind_ok, toS_ok, seq_nx, opt_ok, sel_0, sel_1, sel_2, sel_3, sel_nil, mkL_f, mkL_t, f_int, f_add, f_eqI, f_neI, f_abs, f_i1, f_max2, f_min2, f_neg, List.getElem?_cons_succ, List.getElem?_cons_zero, List.set_cons_succ, List.set_cons_zero, List.length_cons, List.length_nil, List.cons_append, List.nil_append, List.map_cons, List.map_nil, List.zip_cons_cons, List.zip_nil_left, List.zip_nil_right, List.foldl_cons, List.foldl_nil, szl, ite_true, ite_false, Nat.zero_add, Nat.reduceAdd, Nat.reduceSub, ↓reduceIte, and_self, and_true, true_and, Bool.not_true, Bool.not_false, Bool.not_not, Bool.false_eq_true, reduceCtorEq, gN, gT, gsNil, gsCons, hName, hTup, hsNil, hsCons, Option.bind_some, Option.map_some, partO, seqv_tup, seqv_fl, decide_true, decide_false, Nat.reduceLeDiff, slips_ne, decide_eq_false q0, i0, ad, a2, hl, z2, str_same z1]; try rfl)) ?_
  -- the last
  obtain ⟨z, z1, z2⟩ := Rp.slip s0
  obtain ⟨r6, e6⟩ : ∃ r6, r6 = st5.length := ⟨_, rfl⟩
  have g6 := k2.app [.dk []]
  obtain ⟨d, st7, d1, d2, d3⟩ := of_ok (x := .fl [.non, .int 7, .str "00", .ref st5.length]) (ys := [.non, .int 7, .str "00", .ref st5.length]) g6 (fun _ _ => rfl) (by simp) (by simp)
  have hd : F_checked_heap [.ref 2, d] st7 = .exc "InvalidSlip" (some (.int 0)) st7 := by
    simp only [List.mem_cons, List.not_mem_nil, or_false] at d2
    rcases d2 with rfl | rfl | rfl | rfl
    · exact stopN _
    · exact heap_none (t := "int") rfl rfl
    · exact heap_none (t := "str") rfl rfl
    · obtain ⟨st8, rfl, d4⟩ := d3.cut
      have : st5.length = st8.length := by rw [k2.len, d4.len]
      refine heap_none (t := "dict") ?_ rfl
      unfold tagD
      rw [this]
      simp only [at_end]
  have a9 := asked_bad (v := .non) (form := 0) hd (.inl rfl)
  rw [← e_of] at d1
  refine sp_ret (d := .bl true) (st1 := st7) (by (simp only [bind_exc, toS_exc, seq_exc, seq_rt, x_var, x_c, x_bin, x_un, x_fn, x_bm, x_tst, x_notT, x_andT, x_orT, x_if, x_not, x_and, x_or, x_nil, x_cons, x_star, x_tup, x_lst, x_call, x_sl, x_oN, x_oS, x_lrg, x_trg, x_iseq, x_enum, x_zip, x_yes, x_mk, x_mt, x_fld, x_snil, x_set, x_ret, x_sif, x_drop, x_raise, x_asg, x_par, x_asgH, x_hsub, x_sfld, bind_ok, toS_ok, seq_nx, opt_ok, sel_0, sel_1, sel_2, sel_3, sel_nil, mkL_f, mkL_t, f_int, f_add, f_eqI, f_neI, f_abs, f_i1, f_max2, f_min2, f_neg, List.getElem?_cons_succ, List.getElem?_cons_zero, List.set_cons_succ, List.set_cons_zero, List.length_cons, List.length_nil, List.cons_append, List.nil_append, List.map_cons, List.map_nil, List.zip_cons_cons, List.zip_nil_left, List.zip_nil_right, List.foldl_cons, List.foldl_nil, szl, ite_true, ite_false, Nat.zero_add, Nat.reduceAdd, Nat.reduceSub, ↓reduceIte, and_self, and_true, true_and, Bool.not_true, Bool.not_false, Bool.not_not, Bool.false_eq_true, reduceCtorEq, gN, gT, gsNil, gsCons, hName, hTup, hsNil, hsCons, Option.bind_some, Option.map_some, partO, seqv_tup, seqv_fl, decide_true, decide_false, Nat.reduceLeDiff, d1, a9, z2, str_same z1]; try rfl)) rfl
theorem law_true (ns : List Int) (h : ns.length ≤ 63) : ∃ st', F_law [.rl (ns.map .int)] [] = .ok (.bl true) st' := by
  have z : ∃ d st', fnM 22 1 b_law [.rl (ns.map .int)] [] = .ok d st' ∧ d = .bl true := by
    refine fn_of [some (.rl (ns.map .int)), none, none, none, none, none, none, none, none, none, none, none, none, none, none, none, none, none, none, none, none, none] rfl rfl ?_
    unfold b_law
    refine sp_mono (N := fun _ _ => False) (R := fun d _ => d = .bl true) ?_ (fun _ _ h => h.elim) (fun d st e => by subst e; exact ⟨_, _, rfl, rfl⟩)
    refine start_ok h fun c ss n hs gs x st hM hz H hx hd => ?_
    refine ask_ok hM hz H hd hx fun s t q st h0 h1 _ _ _ _ d1 => ?_
    refine grow_ok H d1 fun a13 a14 a15 more st hm d2 => ?_
    exact end_ok hM hz H hm d2 h0 h1
  obtain ⟨d, st', h1, rfl⟩ := z
  exact ⟨st', h1⟩
end
end K03

namespace K03
open PySem L2 Mi
theorem all_mk {w : World} {K : PySem.W.Frag} {h : Heap} {mg : Str → Option Value} {fa f1 f2 f3 f4 f5 C_Machine f6 f7 f8 f9 f10 f11 f12 f13 f14 f15 f16 f17 f18 f19 f20 f21 f22 f23 f24 f25 f26 f27 f28 CxInvalidMachine fxInvalidMachine ccxInvalidMachine cdaxInvalidMachine NxInvalidMachine CxInvalidSlip fxInvalidSlip ccxInvalidSlip cdaxInvalidSlip NxInvalidSlip CxRefused fxRefused ccxRefused cdaxRefused NxRefused : Addr} (X : K.In h) (G : h.Ns mainGlobals mg) (hfa : mg "law" = some (.ref fa))
    {od1 an1 od2 an2 od3 an3 od4 an4 od5 an5 od6 an6 od7 an7 od8 an8 od9 an9 od10 an10 od11 an11 od12 an12 od13 an13 od14 an14 od15 an15 od16 an16 od17 an17 od18 an18 od19 an19 od20 an20 od21 an21 od22 an22 od23 an23 od24 an24 od25 an25 od26 an26 od27 an27 od28 an28 : Option Addr} {sl1 sl2 sl3 sl4 sl5 sl6 sl7 sl8 sl9 sl10 sl11 sl12 sl13 sl14 sl15 sl16 sl17 sl18 sl19 sl20 sl21 sl22 sl23 sl24 sl25 sl26 sl27 sl28 : Array (Option Value)} {oc1 kV1 dc1 pm1 cd1 ct1 oc2 kV2 dc2 pm2 cd2 ct2 oc3 kV3 dc3 pm3 cd3 ct3 oc4 kV4 dc4 pm4 cd4 ct4 oc5 kV5 dc5 pm5 cd5 ct5 oc6 kV6 dc6 pm6 cd6 ct6 oc7 kV7 dc7 pm7 cd7 ct7 oc8 kV8 dc8 pm8 cd8 ct8 oc9 kV9 dc9 pm9 cd9 ct9 oc10 kV10 dc10 pm10 cd10 ct10 oc11 kV11 dc11 pm11 cd11 ct11 oc12 kV12 dc12 pm12 cd12 ct12 oc13 kV13 dc13 pm13 cd13 ct13 oc14 kV14 dc14 pm14 cd14 ct14 oc15 kV15 dc15 pm15 cd15 ct15 oc16 kV16 dc16 pm16 cd16 ct16 oc17 kV17 dc17 pm17 cd17 ct17 oc18 kV18 dc18 pm18 cd18 ct18 oc19 kV19 dc19 pm19 cd19 ct19 oc20 kV20 dc20 pm20 cd20 ct20 oc21 kV21 dc21 pm21 cd21 ct21 oc22 kV22 dc22 pm22 cd22 ct22 oc23 kV23 dc23 pm23 cd23 ct23 oc24 kV24 dc24 pm24 cd24 ct24 oc25 kV25 dc25 pm25 cd25 ct25 oc26 kV26 dc26 pm26 cd26 ct26 oc27 kV27 dc27 pm27 cd27 ct27 oc28 kV28 dc28 pm28 cd28 ct28 : Value} {nmxInvalidMachine qxInvalidMachine : Str} {bsxInvalidMachine bmxInvalidMachine : List Value} {snxInvalidMachine : List Str} {subxInvalidMachine : List Value} {abxInvalidMachine : Bool} {colxInvalidMachine : Option Bool} {ddxInvalidMachine : Option Addr} {k0xInvalidMachine k1xInvalidMachine k2xInvalidMachine k3xInvalidMachine k5xInvalidMachine : Option Value} {ocxInvalidMachine kVxInvalidMachine dcxInvalidMachine pmxInvalidMachine ctxInvalidMachine cclxInvalidMachine clxInvalidMachine : Value} {odxInvalidMachine anxInvalidMachine cddxInvalidMachine cldxInvalidMachine : Option Addr} {oslxInvalidMachine ccsxInvalidMachine cslxInvalidMachine : Array (Option Value)} {vsxInvalidMachine : Array Value} {filexInvalidMachine : Str} {tfxInvalidMachine : Tok} {cdxInvalidMachine : ClassData} {nmxInvalidSlip qxInvalidSlip : Str} {bsxInvalidSlip bmxInvalidSlip : List Value} {snxInvalidSlip : List Str} {subxInvalidSlip : List Value} {abxInvalidSlip : Bool} {colxInvalidSlip : Option Bool} {ddxInvalidSlip : Option Addr} {k0xInvalidSlip k1xInvalidSlip k2xInvalidSlip k3xInvalidSlip k5xInvalidSlip : Option Value} {ocxInvalidSlip kVxInvalidSlip dcxInvalidSlip pmxInvalidSlip ctxInvalidSlip cclxInvalidSlip clxInvalidSlip : Value} {odxInvalidSlip anxInvalidSlip cddxInvalidSlip cldxInvalidSlip : Option Addr} {oslxInvalidSlip ccsxInvalidSlip cslxInvalidSlip : Array (Option Value)} {vsxInvalidSlip : Array Value} {filexInvalidSlip : Str} {tfxInvalidSlip : Tok} {cdxInvalidSlip : ClassData} {nmxRefused qxRefused : Str} {bsxRefused bmxRefused : List Value} {snxRefused : List Str} {subxRefused : List Value} {abxRefused : Bool} {colxRefused : Option Bool} {ddxRefused : Option Addr} {k0xRefused k1xRefused k2xRefused k3xRefused k5xRefused : Option Value} {ocxRefused kVxRefused dcxRefused pmxRefused ctxRefused cclxRefused clxRefused : Value} {odxRefused anxRefused cddxRefused cldxRefused : Option Addr} {oslxRefused ccsxRefused cslxRefused : Array (Option Value)} {vsxRefused : Array Value} {filexRefused : Str} {tfxRefused : Tok} {cdxRefused : ClassData}
    (a1 : PySem.W.nsIn K mainGlobals "is_integer" = some (some (.ref f1)))
    (l1 : K.lookup f1 = some ⟨oc1, od1, .func (PySem.W.fnOf "is_integer" "is_integer" (defArgs s_is_integer) (defBody s_is_integer) (defScope s_is_integer) .none kV1 dc1 pm1 an1 cd1 ct1), sl1⟩)
    (c1 : PySem.W.codeIn K cd1 "is_integer" = true)
    (k1 : PySem.W.keepIn K (.ref f1) = true)
    (a2 : PySem.W.nsIn K mainGlobals "is_number" = some (some (.ref f2)))
    (l2 : K.lookup f2 = some ⟨oc2, od2, .func (PySem.W.fnOf "is_number" "is_number" (defArgs s_is_number) (defBody s_is_number) (defScope s_is_number) .none kV2 dc2 pm2 an2 cd2 ct2), sl2⟩)
    (c2 : PySem.W.codeIn K cd2 "is_number" = true)
    (k2 : PySem.W.keepIn K (.ref f2) = true)
    (a3 : PySem.W.nsIn K mainGlobals "is_index" = some (some (.ref f3)))
    (l3 : K.lookup f3 = some ⟨oc3, od3, .func (PySem.W.fnOf "is_index" "is_index" (defArgs s_is_index) (defBody s_is_index) (defScope s_is_index) .none kV3 dc3 pm3 an3 cd3 ct3), sl3⟩)
    (c3 : PySem.W.codeIn K cd3 "is_index" = true)
    (k3 : PySem.W.keepIn K (.ref f3) = true)
    (a4 : PySem.W.nsIn K mainGlobals "is_sequence" = some (some (.ref f4)))
    (l4 : K.lookup f4 = some ⟨oc4, od4, .func (PySem.W.fnOf "is_sequence" "is_sequence" (defArgs s_is_sequence) (defBody s_is_sequence) (defScope s_is_sequence) .none kV4 dc4 pm4 an4 cd4 ct4), sl4⟩)
    (c4 : PySem.W.codeIn K cd4 "is_sequence" = true)
    (k4 : PySem.W.keepIn K (.ref f4) = true)
    (aC_Machine : PySem.W.nsIn K mainGlobals "Machine" = some (some (.ref C_Machine)))
    (a5 : PySem.W.findIn K (.ref C_Machine) "__init__" = some (some (.ref f5)))
    (i5 : PySem.W.isFn K (.ref f5) = true)
    (l5 : K.lookup f5 = some ⟨oc5, od5, .func (PySem.W.fnOf "__init__" "Machine.__init__" (defArgs s_Machine___init__) (defBody s_Machine___init__) (defScope s_Machine___init__) .none kV5 dc5 pm5 an5 cd5 ct5), sl5⟩)
    (c5 : PySem.W.codeIn K cd5 "Machine.__init__" = true)
    (k5 : PySem.W.keepIn K (.ref f5) = true)
    (a6 : PySem.W.nsIn K mainGlobals "led" = some (some (.ref f6)))
    (l6 : K.lookup f6 = some ⟨oc6, od6, .func (PySem.W.fnOf "led" "led" (defArgs s_led) (defBody s_led) (defScope s_led) .none kV6 dc6 pm6 an6 cd6 ct6), sl6⟩)
    (c6 : PySem.W.codeIn K cd6 "led" = true)
    (k6 : PySem.W.keepIn K (.ref f6) = true)
    (a7 : PySem.W.nsIn K mainGlobals "is_slip" = some (some (.ref f7)))
    (l7 : K.lookup f7 = some ⟨oc7, od7, .func (PySem.W.fnOf "is_slip" "is_slip" (defArgs s_is_slip) (defBody s_is_slip) (defScope s_is_slip) .none kV7 dc7 pm7 an7 cd7 ct7), sl7⟩)
    (c7 : PySem.W.codeIn K cd7 "is_slip" = true)
    (k7 : PySem.W.keepIn K (.ref f7) = true)
    (a8 : PySem.W.nsIn K mainGlobals "checked_slip" = some (some (.ref f8)))
    (l8 : K.lookup f8 = some ⟨oc8, od8, .func (PySem.W.fnOf "checked_slip" "checked_slip" (defArgs s_checked_slip) (defBody s_checked_slip) (defScope s_checked_slip) .none kV8 dc8 pm8 an8 cd8 ct8), sl8⟩)
    (c8 : PySem.W.codeIn K cd8 "checked_slip" = true)
    (k8 : PySem.W.keepIn K (.ref f8) = true)
    (a9 : PySem.W.nsIn K mainGlobals "checked_heap" = some (some (.ref f9)))
    (l9 : K.lookup f9 = some ⟨oc9, od9, .func (PySem.W.fnOf "checked_heap" "checked_heap" (defArgs s_checked_heap) (defBody s_checked_heap) (defScope s_checked_heap) .none kV9 dc9 pm9 an9 cd9 ct9), sl9⟩)
    (c9 : PySem.W.codeIn K cd9 "checked_heap" = true)
    (k9 : PySem.W.keepIn K (.ref f9) = true)
    (a10 : PySem.W.nsIn K mainGlobals "row_of" = some (some (.ref f10)))
    (l10 : K.lookup f10 = some ⟨oc10, od10, .func (PySem.W.fnOf "row_of" "row_of" (defArgs s_row_of) (defBody s_row_of) (defScope s_row_of) .none kV10 dc10 pm10 an10 cd10 ct10), sl10⟩)
    (c10 : PySem.W.codeIn K cd10 "row_of" = true)
    (k10 : PySem.W.keepIn K (.ref f10) = true)
    (a11 : PySem.W.nsIn K mainGlobals "put_in" = some (some (.ref f11)))
    (l11 : K.lookup f11 = some ⟨oc11, od11, .func (PySem.W.fnOf "put_in" "put_in" (defArgs s_put_in) (defBody s_put_in) (defScope s_put_in) .none kV11 dc11 pm11 an11 cd11 ct11), sl11⟩)
    (c11 : PySem.W.codeIn K cd11 "put_in" = true)
    (k11 : PySem.W.keepIn K (.ref f11) = true)
    (a12 : PySem.W.nsIn K mainGlobals "since" = some (some (.ref f12)))
    (l12 : K.lookup f12 = some ⟨oc12, od12, .func (PySem.W.fnOf "since" "since" (defArgs s_since) (defBody s_since) (defScope s_since) .none kV12 dc12 pm12 an12 cd12 ct12), sl12⟩)
    (c12 : PySem.W.codeIn K cd12 "since" = true)
    (k12 : PySem.W.keepIn K (.ref f12) = true)
    (a13 : PySem.W.nsIn K mainGlobals "until" = some (some (.ref f13)))
    (l13 : K.lookup f13 = some ⟨oc13, od13, .func (PySem.W.fnOf "until" "until" (defArgs s_until) (defBody s_until) (defScope s_until) .none kV13 dc13 pm13 an13 cd13 ct13), sl13⟩)
    (c13 : PySem.W.codeIn K cd13 "until" = true)
    (k13 : PySem.W.keepIn K (.ref f13) = true)
    (a14 : PySem.W.nsIn K mainGlobals "truth" = some (some (.ref f14)))
    (l14 : K.lookup f14 = some ⟨oc14, od14, .func (PySem.W.fnOf "truth" "truth" (defArgs s_truth) (defBody s_truth) (defScope s_truth) .none kV14 dc14 pm14 an14 cd14 ct14), sl14⟩)
    (c14 : PySem.W.codeIn K cd14 "truth" = true)
    (k14 : PySem.W.keepIn K (.ref f14) = true)
    (a15 : PySem.W.nsIn K mainGlobals "_law_draw" = some (some (.ref f15)))
    (l15 : K.lookup f15 = some ⟨oc15, od15, .func (PySem.W.fnOf "_law_draw" "_law_draw" (defArgs s__law_draw) (defBody s__law_draw) (defScope s__law_draw) .none kV15 dc15 pm15 an15 cd15 ct15), sl15⟩)
    (c15 : PySem.W.codeIn K cd15 "_law_draw" = true)
    (k15 : PySem.W.keepIn K (.ref f15) = true)
    (a16 : PySem.W.nsIn K mainGlobals "_law_any" = some (some (.ref f16)))
    (l16 : K.lookup f16 = some ⟨oc16, od16, .func (PySem.W.fnOf "_law_any" "_law_any" (defArgs s__law_any) (defBody s__law_any) (defScope s__law_any) .none kV16 dc16 pm16 an16 cd16 ct16), sl16⟩)
    (c16 : PySem.W.codeIn K cd16 "_law_any" = true)
    (k16 : PySem.W.keepIn K (.ref f16) = true)
    (a17 : PySem.W.nsIn K mainGlobals "_law_of" = some (some (.ref f17)))
    (l17 : K.lookup f17 = some ⟨oc17, od17, .func (PySem.W.fnOf "_law_of" "_law_of" (defArgs s__law_of) (defBody s__law_of) (defScope s__law_of) .none kV17 dc17 pm17 an17 cd17 ct17), sl17⟩)
    (c17 : PySem.W.codeIn K cd17 "_law_of" = true)
    (k17 : PySem.W.keepIn K (.ref f17) = true)
    (a18 : PySem.W.nsIn K mainGlobals "_law_mixed" = some (some (.ref f18)))
    (l18 : K.lookup f18 = some ⟨oc18, od18, .func (PySem.W.fnOf "_law_mixed" "_law_mixed" (defArgs s__law_mixed) (defBody s__law_mixed) (defScope s__law_mixed) .none kV18 dc18 pm18 an18 cd18 ct18), sl18⟩)
    (c18 : PySem.W.codeIn K cd18 "_law_mixed" = true)
    (k18 : PySem.W.keepIn K (.ref f18) = true)
    (a19 : PySem.W.nsIn K mainGlobals "_law_columns" = some (some (.ref f19)))
    (l19 : K.lookup f19 = some ⟨oc19, od19, .func (PySem.W.fnOf "_law_columns" "_law_columns" (defArgs s__law_columns) (defBody s__law_columns) (defScope s__law_columns) .none kV19 dc19 pm19 an19 cd19 ct19), sl19⟩)
    (c19 : PySem.W.codeIn K cd19 "_law_columns" = true)
    (k19 : PySem.W.keepIn K (.ref f19) = true)
    (a20 : PySem.W.nsIn K mainGlobals "_law_column" = some (some (.ref f20)))
    (l20 : K.lookup f20 = some ⟨oc20, od20, .func (PySem.W.fnOf "_law_column" "_law_column" (defArgs s__law_column) (defBody s__law_column) (defScope s__law_column) .none kV20 dc20 pm20 an20 cd20 ct20), sl20⟩)
    (c20 : PySem.W.codeIn K cd20 "_law_column" = true)
    (k20 : PySem.W.keepIn K (.ref f20) = true)
    (a21 : PySem.W.nsIn K mainGlobals "_law_machine" = some (some (.ref f21)))
    (l21 : K.lookup f21 = some ⟨oc21, od21, .func (PySem.W.fnOf "_law_machine" "_law_machine" (defArgs s__law_machine) (defBody s__law_machine) (defScope s__law_machine) .none kV21 dc21 pm21 an21 cd21 ct21), sl21⟩)
    (c21 : PySem.W.codeIn K cd21 "_law_machine" = true)
    (k21 : PySem.W.keepIn K (.ref f21) = true)
    (a22 : PySem.W.nsIn K mainGlobals "_law_led" = some (some (.ref f22)))
    (l22 : K.lookup f22 = some ⟨oc22, od22, .func (PySem.W.fnOf "_law_led" "_law_led" (defArgs s__law_led) (defBody s__law_led) (defScope s__law_led) .none kV22 dc22 pm22 an22 cd22 ct22), sl22⟩)
    (c22 : PySem.W.codeIn K cd22 "_law_led" = true)
    (k22 : PySem.W.keepIn K (.ref f22) = true)
    (a23 : PySem.W.nsIn K mainGlobals "_law_heap" = some (some (.ref f23)))
    (l23 : K.lookup f23 = some ⟨oc23, od23, .func (PySem.W.fnOf "_law_heap" "_law_heap" (defArgs s__law_heap) (defBody s__law_heap) (defScope s__law_heap) .none kV23 dc23 pm23 an23 cd23 ct23), sl23⟩)
    (c23 : PySem.W.codeIn K cd23 "_law_heap" = true)
    (k23 : PySem.W.keepIn K (.ref f23) = true)
    (a24 : PySem.W.nsIn K mainGlobals "_law_asked" = some (some (.ref f24)))
    (l24 : K.lookup f24 = some ⟨oc24, od24, .func (PySem.W.fnOf "_law_asked" "_law_asked" (defArgs s__law_asked) (defBody s__law_asked) (defScope s__law_asked) .none kV24 dc24 pm24 an24 cd24 ct24), sl24⟩)
    (c24 : PySem.W.codeIn K cd24 "_law_asked" = true)
    (k24 : PySem.W.keepIn K (.ref f24) = true)
    (a25 : PySem.W.nsIn K mainGlobals "_law_bad_slip" = some (some (.ref f25)))
    (l25 : K.lookup f25 = some ⟨oc25, od25, .func (PySem.W.fnOf "_law_bad_slip" "_law_bad_slip" (defArgs s__law_bad_slip) (defBody s__law_bad_slip) (defScope s__law_bad_slip) .none kV25 dc25 pm25 an25 cd25 ct25), sl25⟩)
    (c25 : PySem.W.codeIn K cd25 "_law_bad_slip" = true)
    (k25 : PySem.W.keepIn K (.ref f25) = true)
    (a26 : PySem.W.nsIn K mainGlobals "_law_wide" = some (some (.ref f26)))
    (l26 : K.lookup f26 = some ⟨oc26, od26, .func (PySem.W.fnOf "_law_wide" "_law_wide" (defArgs s__law_wide) (defBody s__law_wide) (defScope s__law_wide) .none kV26 dc26 pm26 an26 cd26 ct26), sl26⟩)
    (c26 : PySem.W.codeIn K cd26 "_law_wide" = true)
    (k26 : PySem.W.keepIn K (.ref f26) = true)
    (a27 : PySem.W.nsIn K mainGlobals "_law_parts_at" = some (some (.ref f27)))
    (l27 : K.lookup f27 = some ⟨oc27, od27, .func (PySem.W.fnOf "_law_parts_at" "_law_parts_at" (defArgs s__law_parts_at) (defBody s__law_parts_at) (defScope s__law_parts_at) .none kV27 dc27 pm27 an27 cd27 ct27), sl27⟩)
    (c27 : PySem.W.codeIn K cd27 "_law_parts_at" = true)
    (k27 : PySem.W.keepIn K (.ref f27) = true)
    (a28 : PySem.W.nsIn K mainGlobals "law" = some (some (.ref f28)))
    (l28 : K.lookup f28 = some ⟨oc28, od28, .func (PySem.W.fnOf "law" "law" (defArgs s_law) (defBody s_law) (defScope s_law) .none kV28 dc28 pm28 an28 cd28 ct28), sl28⟩)
    (c28 : PySem.W.codeIn K cd28 "law" = true)
    (k28 : PySem.W.keepIn K (.ref f28) = true)
    (pg_Machine : PySem.W.plainGet K C_Machine Str.empty = true)
    (hd_Machine : PySem.W.hasDictIn K C_Machine = true)
    (po_Machine : PySem.W.plainOver K C_Machine = true)
    (sa_Machine : PySem.W.findIn K (.ref C_Machine) "__setattr__" = some (some (.builtin "object.__setattr__")))
    (mk_Machine : PySem.W.makesIn K C_Machine = true)
    (kc_Machine : PySem.W.keepIn K (.ref C_Machine) = true)
    (nf_Machine_commands : PySem.W.findIn K (.ref C_Machine) "commands" = some none)
    (nf_Machine_states : PySem.W.findIn K (.ref C_Machine) "states" = some none)
    (nf_Machine_steps : PySem.W.findIn K (.ref C_Machine) "steps" = some none)
    (nf_Machine__found : PySem.W.findIn K (.ref C_Machine) "_found" = some none)
    (z_abs : PySem.W.nsIn K mainGlobals "abs" = some none)
    (z_all : PySem.W.nsIn K mainGlobals "all" = some none)
    (z_bool : PySem.W.nsIn K mainGlobals "bool" = some none)
    (z_enumerate : PySem.W.nsIn K mainGlobals "enumerate" = some none)
    (z_int : PySem.W.nsIn K mainGlobals "int" = some none)
    (z_isinstance : PySem.W.nsIn K mainGlobals "isinstance" = some none)
    (z_len : PySem.W.nsIn K mainGlobals "len" = some none)
    (z_list : PySem.W.nsIn K mainGlobals "list" = some none)
    (z_max : PySem.W.nsIn K mainGlobals "max" = some none)
    (z_min : PySem.W.nsIn K mainGlobals "min" = some none)
    (z_range : PySem.W.nsIn K mainGlobals "range" = some none)
    (z_repr : PySem.W.nsIn K mainGlobals "repr" = some none)
    (z_sorted : PySem.W.nsIn K mainGlobals "sorted" = some none)
    (z_tuple : PySem.W.nsIn K mainGlobals "tuple" = some none)
    (z_super : PySem.W.nsIn K mainGlobals "super" = some none)
    (opq : PySem.W.nsIn K PySem.cStatics "thirdparty.any" = some none)
    (axInvalidMachine : PySem.W.nsIn K mainGlobals "InvalidMachine" = some (some (.ref CxInvalidMachine)))
    (lCxInvalidMachine : K.lookup CxInvalidMachine = some (excClassObj nmxInvalidMachine qxInvalidMachine CxInvalidMachine NxInvalidMachine bsxInvalidMachine bmxInvalidMachine true snxInvalidMachine subxInvalidMachine abxInvalidMachine colxInvalidMachine ddxInvalidMachine k0xInvalidMachine k1xInvalidMachine k2xInvalidMachine k3xInvalidMachine k5xInvalidMachine "ValueError.__new__"))
    (rvxInvalidMachine : PySem.HandSPX.refsVE bmxInvalidMachine = true)
    (saxInvalidMachine : PySem.W.findIn K (.ref CxInvalidMachine) "__setattr__" = some (some (.builtin "object.__setattr__")))
    (exxInvalidMachine : PySem.W.subIn K (.ref CxInvalidMachine) (.type "BaseException") = some true)
    (tyxInvalidMachine : PySem.W.typeIn K (.ref CxInvalidMachine) = some (.type "type"))
    (kCxInvalidMachine : PySem.W.keepIn K (.ref CxInvalidMachine) = true)
    (iCxInvalidMachine : PySem.W.findIn K (.ref CxInvalidMachine) "__init__" = some (some (.ref fxInvalidMachine)))
    (tIxInvalidMachine : PySem.W.typeIn K (.ref fxInvalidMachine) = some (.type "function"))
    (lxInvalidMachine : K.lookup fxInvalidMachine = some ⟨ocxInvalidMachine, odxInvalidMachine, .func (PySem.W.ksFn "__init__" "InvalidMachine.__init__" (defArgs (inClass (top 3) 0)) (defBody (inClass (top 3) 0)) (defScope (inClass (top 3) 0)) .none kVxInvalidMachine dcxInvalidMachine pmxInvalidMachine anxInvalidMachine (.ref cdaxInvalidMachine) ctxInvalidMachine ccxInvalidMachine), oslxInvalidMachine⟩)
    (cxInvalidMachine : PySem.W.codeIn K (.ref cdaxInvalidMachine) "InvalidMachine.__init__" = true)
    (lcdxInvalidMachine : K.lookup cdaxInvalidMachine = some ⟨cclxInvalidMachine, cddxInvalidMachine, .fields vsxInvalidMachine, ccsxInvalidMachine⟩)
    (hvxInvalidMachine : vsxInvalidMachine[2]? = some (.str filexInvalidMachine tfxInvalidMachine))
    (hfxInvalidMachine : ((PySem.Challenge.pw_slipslater_k03_heaps_of_slips.main.file : Str) == filexInvalidMachine) = true)
    (lccxInvalidMachine : K.lookup ccxInvalidMachine = some ⟨clxInvalidMachine, cldxInvalidMachine, .cell (some (.ref CxInvalidMachine)), cslxInvalidMachine⟩)
    (hcxInvalidMachine : PySem.W.clsIn K CxInvalidMachine = some cdxInvalidMachine)
    (suxInvalidMachine : PySem.W.mroIn K CxInvalidMachine (.ref CxInvalidMachine) = some true)
    (spxInvalidMachine : PySem.W.ks_superIn K CxInvalidMachine CxInvalidMachine "__init__" = some (some (.builtin "ValueError.__init__")))
    (ivxInvalidMachine : PySem.W.subIn K (.ref CxInvalidMachine) (.type "ValueError") = some true)
    (naxInvalidMachine : PySem.W.findIn K (.ref CxInvalidMachine) "at" = some none)
    (gaxInvalidMachine : PySem.W.findIn K (.ref CxInvalidMachine) "__getattribute__" = some (some (.builtin "BaseException.__getattribute__")))
    (ggxInvalidMachine : PySem.W.findIn K (.ref CxInvalidMachine) "__getattr__" = some none)
    (hdxInvalidMachine : PySem.W.hasDictIn K CxInvalidMachine = true)
    (axInvalidSlip : PySem.W.nsIn K mainGlobals "InvalidSlip" = some (some (.ref CxInvalidSlip)))
    (lCxInvalidSlip : K.lookup CxInvalidSlip = some (excClassObj nmxInvalidSlip qxInvalidSlip CxInvalidSlip NxInvalidSlip bsxInvalidSlip bmxInvalidSlip true snxInvalidSlip subxInvalidSlip abxInvalidSlip colxInvalidSlip ddxInvalidSlip k0xInvalidSlip k1xInvalidSlip k2xInvalidSlip k3xInvalidSlip k5xInvalidSlip "ValueError.__new__"))
    (rvxInvalidSlip : PySem.HandSPX.refsVE bmxInvalidSlip = true)
    (saxInvalidSlip : PySem.W.findIn K (.ref CxInvalidSlip) "__setattr__" = some (some (.builtin "object.__setattr__")))
    (exxInvalidSlip : PySem.W.subIn K (.ref CxInvalidSlip) (.type "BaseException") = some true)
    (tyxInvalidSlip : PySem.W.typeIn K (.ref CxInvalidSlip) = some (.type "type"))
    (kCxInvalidSlip : PySem.W.keepIn K (.ref CxInvalidSlip) = true)
    (iCxInvalidSlip : PySem.W.findIn K (.ref CxInvalidSlip) "__init__" = some (some (.ref fxInvalidSlip)))
    (tIxInvalidSlip : PySem.W.typeIn K (.ref fxInvalidSlip) = some (.type "function"))
    (lxInvalidSlip : K.lookup fxInvalidSlip = some ⟨ocxInvalidSlip, odxInvalidSlip, .func (PySem.W.ksFn "__init__" "InvalidSlip.__init__" (defArgs (inClass (top 4) 0)) (defBody (inClass (top 4) 0)) (defScope (inClass (top 4) 0)) .none kVxInvalidSlip dcxInvalidSlip pmxInvalidSlip anxInvalidSlip (.ref cdaxInvalidSlip) ctxInvalidSlip ccxInvalidSlip), oslxInvalidSlip⟩)
    (cxInvalidSlip : PySem.W.codeIn K (.ref cdaxInvalidSlip) "InvalidSlip.__init__" = true)
    (lcdxInvalidSlip : K.lookup cdaxInvalidSlip = some ⟨cclxInvalidSlip, cddxInvalidSlip, .fields vsxInvalidSlip, ccsxInvalidSlip⟩)
    (hvxInvalidSlip : vsxInvalidSlip[2]? = some (.str filexInvalidSlip tfxInvalidSlip))
    (hfxInvalidSlip : ((PySem.Challenge.pw_slipslater_k03_heaps_of_slips.main.file : Str) == filexInvalidSlip) = true)
    (lccxInvalidSlip : K.lookup ccxInvalidSlip = some ⟨clxInvalidSlip, cldxInvalidSlip, .cell (some (.ref CxInvalidSlip)), cslxInvalidSlip⟩)
    (hcxInvalidSlip : PySem.W.clsIn K CxInvalidSlip = some cdxInvalidSlip)
    (suxInvalidSlip : PySem.W.mroIn K CxInvalidSlip (.ref CxInvalidSlip) = some true)
    (spxInvalidSlip : PySem.W.ks_superIn K CxInvalidSlip CxInvalidSlip "__init__" = some (some (.builtin "ValueError.__init__")))
    (ivxInvalidSlip : PySem.W.subIn K (.ref CxInvalidSlip) (.type "ValueError") = some true)
    (naxInvalidSlip : PySem.W.findIn K (.ref CxInvalidSlip) "at" = some none)
    (gaxInvalidSlip : PySem.W.findIn K (.ref CxInvalidSlip) "__getattribute__" = some (some (.builtin "BaseException.__getattribute__")))
    (ggxInvalidSlip : PySem.W.findIn K (.ref CxInvalidSlip) "__getattr__" = some none)
    (hdxInvalidSlip : PySem.W.hasDictIn K CxInvalidSlip = true)
    (axRefused : PySem.W.nsIn K mainGlobals "Refused" = some (some (.ref CxRefused)))
    (lCxRefused : K.lookup CxRefused = some (excClassObj nmxRefused qxRefused CxRefused NxRefused bsxRefused bmxRefused true snxRefused subxRefused abxRefused colxRefused ddxRefused k0xRefused k1xRefused k2xRefused k3xRefused k5xRefused "ValueError.__new__"))
    (rvxRefused : PySem.HandSPX.refsVE bmxRefused = true)
    (saxRefused : PySem.W.findIn K (.ref CxRefused) "__setattr__" = some (some (.builtin "object.__setattr__")))
    (exxRefused : PySem.W.subIn K (.ref CxRefused) (.type "BaseException") = some true)
    (tyxRefused : PySem.W.typeIn K (.ref CxRefused) = some (.type "type"))
    (kCxRefused : PySem.W.keepIn K (.ref CxRefused) = true)
    (iCxRefused : PySem.W.findIn K (.ref CxRefused) "__init__" = some (some (.ref fxRefused)))
    (tIxRefused : PySem.W.typeIn K (.ref fxRefused) = some (.type "function"))
    (lxRefused : K.lookup fxRefused = some ⟨ocxRefused, odxRefused, .func (PySem.W.ksFn "__init__" "Refused.__init__" (defArgs (inClass (top 5) 0)) (defBody (inClass (top 5) 0)) (defScope (inClass (top 5) 0)) .none kVxRefused dcxRefused pmxRefused anxRefused (.ref cdaxRefused) ctxRefused ccxRefused), oslxRefused⟩)
    (cxRefused : PySem.W.codeIn K (.ref cdaxRefused) "Refused.__init__" = true)
    (lcdxRefused : K.lookup cdaxRefused = some ⟨cclxRefused, cddxRefused, .fields vsxRefused, ccsxRefused⟩)
    (hvxRefused : vsxRefused[2]? = some (.str filexRefused tfxRefused))
    (hfxRefused : ((PySem.Challenge.pw_slipslater_k03_heaps_of_slips.main.file : Str) == filexRefused) = true)
    (lccxRefused : K.lookup ccxRefused = some ⟨clxRefused, cldxRefused, .cell (some (.ref CxRefused)), cslxRefused⟩)
    (hcxRefused : PySem.W.clsIn K CxRefused = some cdxRefused)
    (suxRefused : PySem.W.mroIn K CxRefused (.ref CxRefused) = some true)
    (spxRefused : PySem.W.ks_superIn K CxRefused CxRefused "__init__" = some (some (.builtin "ValueError.__init__")))
    (ivxRefused : PySem.W.subIn K (.ref CxRefused) (.type "ValueError") = some true)
    (naxRefused : PySem.W.findIn K (.ref CxRefused) "at" = some none)
    (gaxRefused : PySem.W.findIn K (.ref CxRefused) "__getattribute__" = some (some (.builtin "BaseException.__getattribute__")))
    (ggxRefused : PySem.W.findIn K (.ref CxRefused) "__getattr__" = some none)
    (hdxRefused : PySem.W.hasDictIn K CxRefused = true)
    (sb_InvalidMachine_InvalidMachine : PySem.W.subIn K (.ref CxInvalidMachine) (.ref CxInvalidMachine) = some true)
    (sb_InvalidMachine_InvalidSlip : PySem.W.subIn K (.ref CxInvalidMachine) (.ref CxInvalidSlip) = some false)
    (sb_InvalidMachine_Refused : PySem.W.subIn K (.ref CxInvalidMachine) (.ref CxRefused) = some false)
    (sb_InvalidSlip_InvalidMachine : PySem.W.subIn K (.ref CxInvalidSlip) (.ref CxInvalidMachine) = some false)
    (sb_InvalidSlip_InvalidSlip : PySem.W.subIn K (.ref CxInvalidSlip) (.ref CxInvalidSlip) = some true)
    (sb_InvalidSlip_Refused : PySem.W.subIn K (.ref CxInvalidSlip) (.ref CxRefused) = some false)
    (sb_Refused_InvalidMachine : PySem.W.subIn K (.ref CxRefused) (.ref CxInvalidMachine) = some false)
    (sb_Refused_InvalidSlip : PySem.W.subIn K (.ref CxRefused) (.ref CxInvalidSlip) = some false)
    (sb_Refused_Refused : PySem.W.subIn K (.ref CxRefused) (.ref CxRefused) = some true)
    : ∃ fd : FuncData, (∀ (s : Shared) (v : Value), BindsTo s fd ⟨[v], []⟩ [(("script" : Str), v)]) ∧ ∀ base : Heap, K.In base → base.Ns mainGlobals mg → FnG PySem.Challenge.pw_slipslater_k03_heaps_of_slips w K mg base 17 fa fd ["script"] F_law := by
  have e := hfa.symm.trans (PySem.W.mg_of X G a28)
  cases e
  have F1 := fun_mk (st := s_is_integer) l1 c1 k1
  have F2 := fun_mk (st := s_is_number) l2 c2 k2
  have F3 := fun_mk (st := s_is_index) l3 c3 k3
  have F4 := fun_mk (st := s_is_sequence) l4 c4 k4
  have F5 := fun_mk (st := s_Machine___init__) l5 c5 k5
  have F6 := fun_mk (st := s_led) l6 c6 k6
  have F7 := fun_mk (st := s_is_slip) l7 c7 k7
  have F8 := fun_mk (st := s_checked_slip) l8 c8 k8
  have F9 := fun_mk (st := s_checked_heap) l9 c9 k9
  have F10 := fun_mk (st := s_row_of) l10 c10 k10
  have F11 := fun_mk (st := s_put_in) l11 c11 k11
  have F12 := fun_mk (st := s_since) l12 c12 k12
  have F13 := fun_mk (st := s_until) l13 c13 k13
  have F14 := fun_mk (st := s_truth) l14 c14 k14
  have F15 := fun_mk (st := s__law_draw) l15 c15 k15
  have F16 := fun_mk (st := s__law_any) l16 c16 k16
  have F17 := fun_mk (st := s__law_of) l17 c17 k17
  have F18 := fun_mk (st := s__law_mixed) l18 c18 k18
  have F19 := fun_mk (st := s__law_columns) l19 c19 k19
  have F20 := fun_mk (st := s__law_column) l20 c20 k20
  have F21 := fun_mk (st := s__law_machine) l21 c21 k21
  have F22 := fun_mk (st := s__law_led) l22 c22 k22
  have F23 := fun_mk (st := s__law_heap) l23 c23 k23
  have F24 := fun_mk (st := s__law_asked) l24 c24 k24
  have F25 := fun_mk (st := s__law_bad_slip) l25 c25 k25
  have F26 := fun_mk (st := s__law_wide) l26 c26 k26
  have F27 := fun_mk (st := s__law_parts_at) l27 c27 k27
  have F28 := fun_mk (st := s_law) l28 c28 k28
  have rxInvalidMachine : ExcOk PySem.Challenge.pw_slipslater_k03_heaps_of_slips K mg "InvalidMachine" := ⟨CxInvalidMachine, fxInvalidMachine, ccxInvalidMachine, cdaxInvalidMachine, "__init__", "InvalidMachine.__init__", defArgs (inClass (top 3) 0), defBody (inClass (top 3) 0), defScope (inClass (top 3) 0), .none, kVxInvalidMachine, dcxInvalidMachine, pmxInvalidMachine, ctxInvalidMachine, anxInvalidMachine, PySem.W.mg_of X G axInvalidMachine, { oe := ⟨⟨nmxInvalidMachine, qxInvalidMachine, NxInvalidMachine, bsxInvalidMachine, bmxInvalidMachine, snxInvalidMachine, subxInvalidMachine, abxInvalidMachine, colxInvalidMachine, ddxInvalidMachine, k0xInvalidMachine, k1xInvalidMachine, k2xInvalidMachine, k3xInvalidMachine, k5xInvalidMachine, lCxInvalidMachine, rvxInvalidMachine⟩, saxInvalidMachine, exxInvalidMachine, tyxInvalidMachine, kCxInvalidMachine⟩, fn := ⟨_, _, _, lxInvalidMachine⟩, cod := cxInvalidMachine, bd := ⟨_, _, _, _, _, _, _, _, _, _, _, _, rfl, _, fun _ => ⟨rfl, rfl, rfl, rfl⟩⟩, hd := ⟨_, rfl, rfl⟩, bn := fun _ _ => rfl, fil := ⟨_, _, _, _, _, _, lcdxInvalidMachine, hvxInvalidMachine, hfxInvalidMachine⟩, cell := ⟨_, _, _, lccxInvalidMachine⟩, cls := ⟨_, hcxInvalidMachine⟩, sub := suxInvalidMachine, opq := opq, sup := spxInvalidMachine, isV := ivxInvalidMachine, noA := naxInvalidMachine, s1 := rfl, s2 := rfl, s3 := rfl, s4 := rfl, sk := rfl, nc := by decide +kernel, co := rfl, gen := rfl, top := rfl }, iCxInvalidMachine, tIxInvalidMachine⟩
  have rxInvalidSlip : ExcOk PySem.Challenge.pw_slipslater_k03_heaps_of_slips K mg "InvalidSlip" := ⟨CxInvalidSlip, fxInvalidSlip, ccxInvalidSlip, cdaxInvalidSlip, "__init__", "InvalidSlip.__init__", defArgs (inClass (top 4) 0), defBody (inClass (top 4) 0), defScope (inClass (top 4) 0), .none, kVxInvalidSlip, dcxInvalidSlip, pmxInvalidSlip, ctxInvalidSlip, anxInvalidSlip, PySem.W.mg_of X G axInvalidSlip, { oe := ⟨⟨nmxInvalidSlip, qxInvalidSlip, NxInvalidSlip, bsxInvalidSlip, bmxInvalidSlip, snxInvalidSlip, subxInvalidSlip, abxInvalidSlip, colxInvalidSlip, ddxInvalidSlip, k0xInvalidSlip, k1xInvalidSlip, k2xInvalidSlip, k3xInvalidSlip, k5xInvalidSlip, lCxInvalidSlip, rvxInvalidSlip⟩, saxInvalidSlip, exxInvalidSlip, tyxInvalidSlip, kCxInvalidSlip⟩, fn := ⟨_, _, _, lxInvalidSlip⟩, cod := cxInvalidSlip, bd := ⟨_, _, _, _, _, _, _, _, _, _, _, _, rfl, _, fun _ => ⟨rfl, rfl, rfl, rfl⟩⟩, hd := ⟨_, rfl, rfl⟩, bn := fun _ _ => rfl, fil := ⟨_, _, _, _, _, _, lcdxInvalidSlip, hvxInvalidSlip, hfxInvalidSlip⟩, cell := ⟨_, _, _, lccxInvalidSlip⟩, cls := ⟨_, hcxInvalidSlip⟩, sub := suxInvalidSlip, opq := opq, sup := spxInvalidSlip, isV := ivxInvalidSlip, noA := naxInvalidSlip, s1 := rfl, s2 := rfl, s3 := rfl, s4 := rfl, sk := rfl, nc := by decide +kernel, co := rfl, gen := rfl, top := rfl }, iCxInvalidSlip, tIxInvalidSlip⟩
  have rxRefused : ExcOk PySem.Challenge.pw_slipslater_k03_heaps_of_slips K mg "Refused" := ⟨CxRefused, fxRefused, ccxRefused, cdaxRefused, "__init__", "Refused.__init__", defArgs (inClass (top 5) 0), defBody (inClass (top 5) 0), defScope (inClass (top 5) 0), .none, kVxRefused, dcxRefused, pmxRefused, ctxRefused, anxRefused, PySem.W.mg_of X G axRefused, { oe := ⟨⟨nmxRefused, qxRefused, NxRefused, bsxRefused, bmxRefused, snxRefused, subxRefused, abxRefused, colxRefused, ddxRefused, k0xRefused, k1xRefused, k2xRefused, k3xRefused, k5xRefused, lCxRefused, rvxRefused⟩, saxRefused, exxRefused, tyxRefused, kCxRefused⟩, fn := ⟨_, _, _, lxRefused⟩, cod := cxRefused, bd := ⟨_, _, _, _, _, _, _, _, _, _, _, _, rfl, _, fun _ => ⟨rfl, rfl, rfl, rfl⟩⟩, hd := ⟨_, rfl, rfl⟩, bn := fun _ _ => rfl, fil := ⟨_, _, _, _, _, _, lcdxRefused, hvxRefused, hfxRefused⟩, cell := ⟨_, _, _, lccxRefused⟩, cls := ⟨_, hcxRefused⟩, sub := suxRefused, opq := opq, sup := spxRefused, isV := ivxRefused, noA := naxRefused, s1 := rfl, s2 := rfl, s3 := rfl, s4 := rfl, sk := rfl, nc := by decide +kernel, co := rfl, gen := rfl, top := rfl }, iCxRefused, tIxRefused⟩
  have T : Txt PySem.Challenge.pw_slipslater_k03_heaps_of_slips K mg := { z_abs := PySem.W.mg_none_of X G z_abs, z_all := PySem.W.mg_none_of X G z_all, z_bool := PySem.W.mg_none_of X G z_bool, z_enumerate := PySem.W.mg_none_of X G z_enumerate, z_int := PySem.W.mg_none_of X G z_int, z_isinstance := PySem.W.mg_none_of X G z_isinstance, z_len := PySem.W.mg_none_of X G z_len, z_list := PySem.W.mg_none_of X G z_list, z_max := PySem.W.mg_none_of X G z_max, z_min := PySem.W.mg_none_of X G z_min, z_range := PySem.W.mg_none_of X G z_range, z_repr := PySem.W.mg_none_of X G z_repr, z_sorted := PySem.W.mg_none_of X G z_sorted, z_tuple := PySem.W.mg_none_of X G z_tuple, z_super := PySem.W.mg_none_of X G z_super, r_InvalidMachine := rxInvalidMachine, r_InvalidSlip := rxInvalidSlip, r_Refused := rxRefused, fld := (fldB_cons (PySem.W.mg_of X G aC_Machine) pg_Machine hd_Machine po_Machine sa_Machine nf_Machine_commands (fldB_cons (PySem.W.mg_of X G aC_Machine) pg_Machine hd_Machine po_Machine sa_Machine nf_Machine_states (fldB_cons (PySem.W.mg_of X G aC_Machine) pg_Machine hd_Machine po_Machine sa_Machine nf_Machine_steps (fldB_cons (PySem.W.mg_of X G aC_Machine) pg_Machine hd_Machine po_Machine sa_Machine nf_Machine__found fldB_nil)))), exT := (exTab_cons (PySem.W.mg_of X G axInvalidMachine) (PySem.W.mg_of X G axInvalidMachine) (exm_of exxInvalidMachine hcxInvalidMachine tyxInvalidMachine sb_InvalidMachine_InvalidMachine) gaxInvalidMachine ggxInvalidMachine exxInvalidMachine hdxInvalidMachine naxInvalidMachine (exTab_cons (PySem.W.mg_of X G axInvalidMachine) (PySem.W.mg_of X G axInvalidSlip) (exm_of exxInvalidSlip hcxInvalidSlip tyxInvalidSlip sb_InvalidMachine_InvalidSlip) gaxInvalidMachine ggxInvalidMachine exxInvalidMachine hdxInvalidMachine naxInvalidMachine (exTab_cons (PySem.W.mg_of X G axInvalidMachine) (PySem.W.mg_of X G axRefused) (exm_of exxRefused hcxRefused tyxRefused sb_InvalidMachine_Refused) gaxInvalidMachine ggxInvalidMachine exxInvalidMachine hdxInvalidMachine naxInvalidMachine (exTab_cons (PySem.W.mg_of X G axInvalidSlip) (PySem.W.mg_of X G axInvalidMachine) (exm_of exxInvalidMachine hcxInvalidMachine tyxInvalidMachine sb_InvalidSlip_InvalidMachine) gaxInvalidSlip ggxInvalidSlip exxInvalidSlip hdxInvalidSlip naxInvalidSlip (exTab_cons (PySem.W.mg_of X G axInvalidSlip) (PySem.W.mg_of X G axInvalidSlip) (exm_of exxInvalidSlip hcxInvalidSlip tyxInvalidSlip sb_InvalidSlip_InvalidSlip) gaxInvalidSlip ggxInvalidSlip exxInvalidSlip hdxInvalidSlip naxInvalidSlip (exTab_cons (PySem.W.mg_of X G axInvalidSlip) (PySem.W.mg_of X G axRefused) (exm_of exxRefused hcxRefused tyxRefused sb_InvalidSlip_Refused) gaxInvalidSlip ggxInvalidSlip exxInvalidSlip hdxInvalidSlip naxInvalidSlip (exTab_cons (PySem.W.mg_of X G axRefused) (PySem.W.mg_of X G axInvalidMachine) (exm_of exxInvalidMachine hcxInvalidMachine tyxInvalidMachine sb_Refused_InvalidMachine) gaxRefused ggxRefused exxRefused hdxRefused naxRefused (exTab_cons (PySem.W.mg_of X G axRefused) (PySem.W.mg_of X G axInvalidSlip) (exm_of exxInvalidSlip hcxInvalidSlip tyxInvalidSlip sb_Refused_InvalidSlip) gaxRefused ggxRefused exxRefused hdxRefused naxRefused (exTab_cons (PySem.W.mg_of X G axRefused) (PySem.W.mg_of X G axRefused) (exm_of exxRefused hcxRefused tyxRefused sb_Refused_Refused) gaxRefused ggxRefused exxRefused hdxRefused naxRefused exTab_nil))))))))) }
  refine ⟨PySem.W.fnOf "law" "law" (defArgs s_law) (defBody s_law) (defScope s_law) .none kV28 dc28 pm28 an28 cd28 ct28, fun s v => .of_eq rfl, fun base hb1 hb2 => ?_⟩
  have G1 : FnG PySem.Challenge.pw_slipslater_k03_heaps_of_slips w K mg base 1 _ _ ["value"] F_is_integer := ok_is_integer F1 T 
  have c_is_integer_1 : Cal PySem.Challenge.pw_slipslater_k03_heaps_of_slips w K mg base 1 "is_integer" 1 [] [0] F_is_integer := cal_of (PySem.W.mg_of X G a1) k1 (fun us ws h1 h2 => match us, ws, h1, h2 with | [_], [], _, _ => rfl) G1
  have G2 : FnG PySem.Challenge.pw_slipslater_k03_heaps_of_slips w K mg base 3 _ _ ["value"] F_is_number := ok_is_number F2 T c_is_integer_1
  have c_is_number_1 : Cal PySem.Challenge.pw_slipslater_k03_heaps_of_slips w K mg base 3 "is_number" 1 [] [0] F_is_number := cal_of (PySem.W.mg_of X G a2) k2 (fun us ws h1 h2 => match us, ws, h1, h2 with | [_], [], _, _ => rfl) G2
  have G3 : FnG PySem.Challenge.pw_slipslater_k03_heaps_of_slips w K mg base 5 _ _ ["value", "many"] F_is_index := ok_is_index F3 T c_is_number_1
  have c_is_index_2 : Cal PySem.Challenge.pw_slipslater_k03_heaps_of_slips w K mg base 5 "is_index" 2 [] [0, 1] F_is_index := cal_of (PySem.W.mg_of X G a3) k3 (fun us ws h1 h2 => match us, ws, h1, h2 with | [_, _], [], _, _ => rfl) G3
  have G4 : FnG PySem.Challenge.pw_slipslater_k03_heaps_of_slips w K mg base 1 _ _ ["value"] F_is_sequence := ok_is_sequence F4 T 
  have c_is_sequence_1 : Cal PySem.Challenge.pw_slipslater_k03_heaps_of_slips w K mg base 1 "is_sequence" 1 [] [0] F_is_sequence := cal_of (PySem.W.mg_of X G a4) k4 (fun us ws h1 h2 => match us, ws, h1, h2 with | [_], [], _, _ => rfl) G4
  have G5 : FnG PySem.Challenge.pw_slipslater_k03_heaps_of_slips w K mg base 7 _ _ ["self", "commands", "steps"] F_Machine___init__ := ok_Machine___init__ F5 T c_is_number_1 c_is_sequence_1 c_is_index_2
  have c_Machine_2 : CalC PySem.Challenge.pw_slipslater_k03_heaps_of_slips w K mg base 7 "Machine" 2 [] [0, 1, 2] F_Machine___init__ := calC_of (PySem.W.mg_of X G aC_Machine) ⟨mk_Machine, a5, i5, kc_Machine⟩ (fun us ws h1 h2 => match us, ws, h1, h2 with | [_, _, _], [], _, _ => rfl) G5
  have G6 : FnG PySem.Challenge.pw_slipslater_k03_heaps_of_slips w K mg base 1 _ _ ["machine", "state", "row"] F_led := ok_led F6 T 
  have c_led_3 : Cal PySem.Challenge.pw_slipslater_k03_heaps_of_slips w K mg base 1 "led" 3 [] [0, 1, 2] F_led := cal_of (PySem.W.mg_of X G a6) k6 (fun us ws h1 h2 => match us, ws, h1, h2 with | [_, _, _], [], _, _ => rfl) G6
  have G7 : FnG PySem.Challenge.pw_slipslater_k03_heaps_of_slips w K mg base 7 _ _ ["machine", "value"] F_is_slip := ok_is_slip F7 T c_is_number_1 c_is_index_2
  have c_is_slip_2 : Cal PySem.Challenge.pw_slipslater_k03_heaps_of_slips w K mg base 7 "is_slip" 2 [] [0, 1] F_is_slip := cal_of (PySem.W.mg_of X G a7) k7 (fun us ws h1 h2 => match us, ws, h1, h2 with | [_, _], [], _, _ => rfl) G7
  have G8 : FnG PySem.Challenge.pw_slipslater_k03_heaps_of_slips w K mg base 9 _ _ ["machine", "value"] F_checked_slip := ok_checked_slip F8 T c_is_slip_2
  have c_checked_slip_2 : Cal PySem.Challenge.pw_slipslater_k03_heaps_of_slips w K mg base 9 "checked_slip" 2 [] [0, 1] F_checked_slip := cal_of (PySem.W.mg_of X G a8) k8 (fun us ws h1 h2 => match us, ws, h1, h2 with | [_, _], [], _, _ => rfl) G8
  have c_checked_slip_0_value_machine : Cal PySem.Challenge.pw_slipslater_k03_heaps_of_slips w K mg base 9 "checked_slip" 0 ["value", "machine"] [1, 0] F_checked_slip := cal_of (PySem.W.mg_of X G a8) k8 (fun us ws h1 h2 => match us, ws, h1, h2 with | [], [_, _], _, _ => rfl) G8
  have G9 : FnG PySem.Challenge.pw_slipslater_k03_heaps_of_slips w K mg base 9 _ _ ["machine", "value"] F_checked_heap := ok_checked_heap F9 T c_is_sequence_1 c_is_slip_2
  have c_checked_heap_2 : Cal PySem.Challenge.pw_slipslater_k03_heaps_of_slips w K mg base 9 "checked_heap" 2 [] [0, 1] F_checked_heap := cal_of (PySem.W.mg_of X G a9) k9 (fun us ws h1 h2 => match us, ws, h1, h2 with | [_, _], [], _, _ => rfl) G9
  have c_checked_heap_0_value_machine : Cal PySem.Challenge.pw_slipslater_k03_heaps_of_slips w K mg base 9 "checked_heap" 0 ["value", "machine"] [1, 0] F_checked_heap := cal_of (PySem.W.mg_of X G a9) k9 (fun us ws h1 h2 => match us, ws, h1, h2 with | [], [_, _], _, _ => rfl) G9
  have G10 : FnG PySem.Challenge.pw_slipslater_k03_heaps_of_slips w K mg base 11 _ _ ["machine", "heap"] F_row_of := ok_row_of F10 T c_checked_heap_2
  have c_row_of_2 : Cal PySem.Challenge.pw_slipslater_k03_heaps_of_slips w K mg base 11 "row_of" 2 [] [0, 1] F_row_of := cal_of (PySem.W.mg_of X G a10) k10 (fun us ws h1 h2 => match us, ws, h1, h2 with | [_, _], [], _, _ => rfl) G10
  have c_row_of_0_heap_machine : Cal PySem.Challenge.pw_slipslater_k03_heaps_of_slips w K mg base 11 "row_of" 0 ["heap", "machine"] [1, 0] F_row_of := cal_of (PySem.W.mg_of X G a10) k10 (fun us ws h1 h2 => match us, ws, h1, h2 with | [], [_, _], _, _ => rfl) G10
  have G11 : FnG PySem.Challenge.pw_slipslater_k03_heaps_of_slips w K mg base 11 _ _ ["machine", "heap", "slip"] F_put_in := ok_put_in F11 T c_checked_slip_2 c_checked_heap_2
  have c_put_in_0_slip_heap_machine : Cal PySem.Challenge.pw_slipslater_k03_heaps_of_slips w K mg base 11 "put_in" 0 ["slip", "heap", "machine"] [2, 1, 0] F_put_in := cal_of (PySem.W.mg_of X G a11) k11 (fun us ws h1 h2 => match us, ws, h1, h2 with | [], [_, _, _], _, _ => rfl) G11
  have c_put_in_3 : Cal PySem.Challenge.pw_slipslater_k03_heaps_of_slips w K mg base 11 "put_in" 3 [] [0, 1, 2] F_put_in := cal_of (PySem.W.mg_of X G a11) k11 (fun us ws h1 h2 => match us, ws, h1, h2 with | [_, _, _], [], _, _ => rfl) G11
  have G12 : FnG PySem.Challenge.pw_slipslater_k03_heaps_of_slips w K mg base 11 _ _ ["machine", "heap", "time"] F_since := ok_since F12 T c_checked_heap_2
  have c_since_3 : Cal PySem.Challenge.pw_slipslater_k03_heaps_of_slips w K mg base 11 "since" 3 [] [0, 1, 2] F_since := cal_of (PySem.W.mg_of X G a12) k12 (fun us ws h1 h2 => match us, ws, h1, h2 with | [_, _, _], [], _, _ => rfl) G12
  have c_since_0_time_heap_machine : Cal PySem.Challenge.pw_slipslater_k03_heaps_of_slips w K mg base 11 "since" 0 ["time", "heap", "machine"] [2, 1, 0] F_since := cal_of (PySem.W.mg_of X G a12) k12 (fun us ws h1 h2 => match us, ws, h1, h2 with | [], [_, _, _], _, _ => rfl) G12
  have G13 : FnG PySem.Challenge.pw_slipslater_k03_heaps_of_slips w K mg base 11 _ _ ["machine", "heap", "time"] F_until := ok_until F13 T c_checked_heap_2
  have c_until_3 : Cal PySem.Challenge.pw_slipslater_k03_heaps_of_slips w K mg base 11 "until" 3 [] [0, 1, 2] F_until := cal_of (PySem.W.mg_of X G a13) k13 (fun us ws h1 h2 => match us, ws, h1, h2 with | [_, _, _], [], _, _ => rfl) G13
  have c_until_0_time_heap_machine : Cal PySem.Challenge.pw_slipslater_k03_heaps_of_slips w K mg base 11 "until" 0 ["time", "heap", "machine"] [2, 1, 0] F_until := cal_of (PySem.W.mg_of X G a13) k13 (fun us ws h1 h2 => match us, ws, h1, h2 with | [], [_, _, _], _, _ => rfl) G13
  have G14 : FnG PySem.Challenge.pw_slipslater_k03_heaps_of_slips w K mg base 13 _ _ ["machine", "state", "heap"] F_truth := ok_truth F14 T c_is_index_2 c_led_3 c_row_of_2
  have c_truth_0_heap_state_machine : Cal PySem.Challenge.pw_slipslater_k03_heaps_of_slips w K mg base 13 "truth" 0 ["heap", "state", "machine"] [2, 1, 0] F_truth := cal_of (PySem.W.mg_of X G a14) k14 (fun us ws h1 h2 => match us, ws, h1, h2 with | [], [_, _, _], _, _ => rfl) G14
  have G15 : FnG PySem.Challenge.pw_slipslater_k03_heaps_of_slips w K mg base 1 _ _ ["script", "salt"] F__law_draw := ok__law_draw F15 T 
  have c__law_draw_2 : Cal PySem.Challenge.pw_slipslater_k03_heaps_of_slips w K mg base 1 "_law_draw" 2 [] [0, 1] F__law_draw := cal_of (PySem.W.mg_of X G a15) k15 (fun us ws h1 h2 => match us, ws, h1, h2 with | [_, _], [], _, _ => rfl) G15
  have G16 : FnG PySem.Challenge.pw_slipslater_k03_heaps_of_slips w K mg base 1 _ _ ["deal", "bound"] F__law_any := ok__law_any F16 T 
  have c__law_any_2 : Cal PySem.Challenge.pw_slipslater_k03_heaps_of_slips w K mg base 1 "_law_any" 2 [] [0, 1] F__law_any := cal_of (PySem.W.mg_of X G a16) k16 (fun us ws h1 h2 => match us, ws, h1, h2 with | [_, _], [], _, _ => rfl) G16
  have G17 : FnG PySem.Challenge.pw_slipslater_k03_heaps_of_slips w K mg base 3 _ _ ["deal", "some"] F__law_of := ok__law_of F17 T c__law_any_2
  have c__law_of_2 : Cal PySem.Challenge.pw_slipslater_k03_heaps_of_slips w K mg base 3 "_law_of" 2 [] [0, 1] F__law_of := cal_of (PySem.W.mg_of X G a17) k17 (fun us ws h1 h2 => match us, ws, h1, h2 with | [_, _], [], _, _ => rfl) G17
  have G18 : FnG PySem.Challenge.pw_slipslater_k03_heaps_of_slips w K mg base 3 _ _ ["deal", "some"] F__law_mixed := ok__law_mixed F18 T c__law_any_2
  have c__law_mixed_2 : Cal PySem.Challenge.pw_slipslater_k03_heaps_of_slips w K mg base 3 "_law_mixed" 2 [] [0, 1] F__law_mixed := cal_of (PySem.W.mg_of X G a18) k18 (fun us ws h1 h2 => match us, ws, h1, h2 with | [_, _], [], _, _ => rfl) G18
  have G19 : FnG PySem.Challenge.pw_slipslater_k03_heaps_of_slips w K mg base 1 _ _ ["columns"] F__law_columns := ok__law_columns F19 T 
  have c__law_columns_1 : Cal PySem.Challenge.pw_slipslater_k03_heaps_of_slips w K mg base 1 "_law_columns" 1 [] [0] F__law_columns := cal_of (PySem.W.mg_of X G a19) k19 (fun us ws h1 h2 => match us, ws, h1, h2 with | [_], [], _, _ => rfl) G19
  have G20 : FnG PySem.Challenge.pw_slipslater_k03_heaps_of_slips w K mg base 5 _ _ ["deal", "form", "many"] F__law_column := ok__law_column F20 T c__law_any_2 c__law_mixed_2
  have c__law_column_3 : Cal PySem.Challenge.pw_slipslater_k03_heaps_of_slips w K mg base 5 "_law_column" 3 [] [0, 1, 2] F__law_column := cal_of (PySem.W.mg_of X G a20) k20 (fun us ws h1 h2 => match us, ws, h1, h2 with | [_, _, _], [], _, _ => rfl) G20
  have G21 : FnG PySem.Challenge.pw_slipslater_k03_heaps_of_slips w K mg base 7 _ _ ["deal", "most"] F__law_machine := ok__law_machine F21 T c__law_of_2 c__law_any_2 c__law_column_3 c__law_columns_1
  have c__law_machine_2 : Cal PySem.Challenge.pw_slipslater_k03_heaps_of_slips w K mg base 7 "_law_machine" 2 [] [0, 1] F__law_machine := cal_of (PySem.W.mg_of X G a21) k21 (fun us ws h1 h2 => match us, ws, h1, h2 with | [_, _], [], _, _ => rfl) G21
  have G22 : FnG PySem.Challenge.pw_slipslater_k03_heaps_of_slips w K mg base 1 _ _ ["steps", "state", "row"] F__law_led := ok__law_led F22 T 
  have c__law_led_3 : Cal PySem.Challenge.pw_slipslater_k03_heaps_of_slips w K mg base 1 "_law_led" 3 [] [0, 1, 2] F__law_led := cal_of (PySem.W.mg_of X G a22) k22 (fun us ws h1 h2 => match us, ws, h1, h2 with | [_, _, _], [], _, _ => rfl) G22
  have G23 : FnG PySem.Challenge.pw_slipslater_k03_heaps_of_slips w K mg base 3 _ _ ["deal", "commands", "many"] F__law_heap := ok__law_heap F23 T c__law_any_2
  have c__law_heap_3 : Cal PySem.Challenge.pw_slipslater_k03_heaps_of_slips w K mg base 3 "_law_heap" 3 [] [0, 1, 2] F__law_heap := cal_of (PySem.W.mg_of X G a23) k23 (fun us ws h1 h2 => match us, ws, h1, h2 with | [_, _, _], [], _, _ => rfl) G23
  have G24 : FnG PySem.Challenge.pw_slipslater_k03_heaps_of_slips w K mg base 15 _ _ ["machine", "form", "heap", "other"] F__law_asked := ok__law_asked F24 T c_checked_heap_0_value_machine c_put_in_0_slip_heap_machine c_row_of_0_heap_machine c_truth_0_heap_state_machine c_checked_slip_0_value_machine
  have c__law_asked_4 : Cal PySem.Challenge.pw_slipslater_k03_heaps_of_slips w K mg base 15 "_law_asked" 4 [] [0, 1, 2, 3] F__law_asked := cal_of (PySem.W.mg_of X G a24) k24 (fun us ws h1 h2 => match us, ws, h1, h2 with | [_, _, _, _], [], _, _ => rfl) G24
  have G25 : FnG PySem.Challenge.pw_slipslater_k03_heaps_of_slips w K mg base 5 _ _ ["deal", "commands"] F__law_bad_slip := ok__law_bad_slip F25 T c__law_of_2
  have c__law_bad_slip_2 : Cal PySem.Challenge.pw_slipslater_k03_heaps_of_slips w K mg base 5 "_law_bad_slip" 2 [] [0, 1] F__law_bad_slip := cal_of (PySem.W.mg_of X G a25) k25 (fun us ws h1 h2 => match us, ws, h1, h2 with | [_, _], [], _, _ => rfl) G25
  have G26 : FnG PySem.Challenge.pw_slipslater_k03_heaps_of_slips w K mg base 9 _ _ ["deal", "most"] F__law_wide := ok__law_wide F26 T c__law_machine_2 c__law_any_2
  have c__law_wide_2 : Cal PySem.Challenge.pw_slipslater_k03_heaps_of_slips w K mg base 9 "_law_wide" 2 [] [0, 1] F__law_wide := cal_of (PySem.W.mg_of X G a26) k26 (fun us ws h1 h2 => match us, ws, h1, h2 with | [_, _], [], _, _ => rfl) G26
  have G27 : FnG PySem.Challenge.pw_slipslater_k03_heaps_of_slips w K mg base 13 _ _ ["machine", "heap", "time"] F__law_parts_at := ok__law_parts_at F27 T c_since_3 c_until_3
  have c__law_parts_at_3 : Cal PySem.Challenge.pw_slipslater_k03_heaps_of_slips w K mg base 13 "_law_parts_at" 3 [] [0, 1, 2] F__law_parts_at := cal_of (PySem.W.mg_of X G a27) k27 (fun us ws h1 h2 => match us, ws, h1, h2 with | [_, _, _], [], _, _ => rfl) G27
  have G28 : FnG PySem.Challenge.pw_slipslater_k03_heaps_of_slips w K mg base 17 _ _ ["script"] F_law := ok_law F28 T c__law_draw_2 c__law_wide_2 c__law_any_2 c__law_heap_3 c_Machine_2 c__law_mixed_2 c__law_asked_4 c__law_led_3 c_since_0_time_heap_machine c_until_0_time_heap_machine c_put_in_3 c_checked_heap_2 c__law_bad_slip_2 c__law_parts_at_3 c__law_of_2
  exact G28
end K03
open PySem PySem.W PyProof.Rows
set_option maxRecDepth 100000 in
set_option maxHeartbeats 0 in
theorem PySem.Challenge.cw_slipslater_k03_heaps_of_slips_holds : PySem.Challenge.rw_slipslater_k03_heaps_of_slips.Holds := by
  w_on; o_law; k_head; (case hw => w_witness2)
  k_fill
  refine Mi.walk_end (l := PySem.Challenge.rw_slipslater_k03_heaps_of_slips) (n := 63) (k := 17) (x := "script") (Fn := K03.F_law) rfl (by decide) rfl ⟨rfl, by decide, by decide⟩ (fun w h Y => PySem.W.kIn_of Y) K03.law_true ?F
  case F =>
    intro w mg fa h KX G hmg
    refine' K03.all_mk KX G hmg ?a1 ?l1 ?c1 ?k1 ?a2 ?l2 ?c2 ?k2 ?a3 ?l3 ?c3 ?k3 ?a4 ?l4 ?c4 ?k4 ?aC_Machine ?a5 ?i5 ?l5 ?c5 ?k5 ?a6 ?l6 ?c6 ?k6 ?a7 ?l7 ?c7 ?k7 ?a8 ?l8 ?c8 ?k8 ?a9 ?l9 ?c9 ?k9 ?a10 ?l10 ?c10 ?k10 ?a11 ?l11 ?c11 ?k11 ?a12 ?l12 ?c12 ?k12 ?a13 ?l13 ?c13 ?k13 ?a14 ?l14 ?c14 ?k14 ?a15 ?l15 ?c15 ?k15 ?a16 ?l16 ?c16 ?k16 ?a17 ?l17 ?c17 ?k17 ?a18 ?l18 ?c18 ?k18 ?a19 ?l19 ?c19 ?k19 ?a20 ?l20 ?c20 ?k20 ?a21 ?l21 ?c21 ?k21 ?a22 ?l22 ?c22 ?k22 ?a23 ?l23 ?c23 ?k23 ?a24 ?l24 ?c24 ?k24 ?a25 ?l25 ?c25 ?k25 ?a26 ?l26 ?c26 ?k26 ?a27 ?l27 ?c27 ?k27 ?a28 ?l28 ?c28 ?k28 ?pg_Machine ?hd_Machine ?po_Machine ?sa_Machine ?mk_Machine ?kc_Machine ?nf_Machine_commands ?nf_Machine_states ?nf_Machine_steps ?nf_Machine__found ?z_abs ?z_all ?z_bool ?z_enumerate ?z_int ?z_isinstance ?z_len ?z_list ?z_max ?z_min ?z_range ?z_repr ?z_sorted ?z_tuple ?z_super ?opq ?axInvalidMachine ?lCxInvalidMachine ?rvxInvalidMachine ?saxInvalidMachine ?exxInvalidMachine ?tyxInvalidMachine ?kCxInvalidMachine ?iCxInvalidMachine ?tIxInvalidMachine ?lxInvalidMachine ?cxInvalidMachine ?lcdxInvalidMachine ?hvxInvalidMachine ?hfxInvalidMachine ?lccxInvalidMachine ?hcxInvalidMachine ?suxInvalidMachine ?spxInvalidMachine ?ivxInvalidMachine ?naxInvalidMachine ?gaxInvalidMachine ?ggxInvalidMachine ?hdxInvalidMachine ?axInvalidSlip ?lCxInvalidSlip ?rvxInvalidSlip ?saxInvalidSlip ?exxInvalidSlip ?tyxInvalidSlip ?kCxInvalidSlip ?iCxInvalidSlip ?tIxInvalidSlip ?lxInvalidSlip ?cxInvalidSlip ?lcdxInvalidSlip ?hvxInvalidSlip ?hfxInvalidSlip ?lccxInvalidSlip ?hcxInvalidSlip ?suxInvalidSlip ?spxInvalidSlip ?ivxInvalidSlip ?naxInvalidSlip ?gaxInvalidSlip ?ggxInvalidSlip ?hdxInvalidSlip ?axRefused ?lCxRefused ?rvxRefused ?saxRefused ?exxRefused ?tyxRefused ?kCxRefused ?iCxRefused ?tIxRefused ?lxRefused ?cxRefused ?lcdxRefused ?hvxRefused ?hfxRefused ?lccxRefused ?hcxRefused ?suxRefused ?spxRefused ?ivxRefused ?naxRefused ?gaxRefused ?ggxRefused ?hdxRefused ?sb_InvalidMachine_InvalidMachine ?sb_InvalidMachine_InvalidSlip ?sb_InvalidMachine_Refused ?sb_InvalidSlip_InvalidMachine ?sb_InvalidSlip_InvalidSlip ?sb_InvalidSlip_Refused ?sb_Refused_InvalidMachine ?sb_Refused_InvalidSlip ?sb_Refused_Refused
    (case a1 => k_is)
    (case l1 => k_is)
    (case c1 => k_is)
    (case k1 => k_is)
    (case a2 => k_is)
    (case l2 => k_is)
    (case c2 => k_is)
    (case k2 => k_is)
    (case a3 => k_is)
    (case l3 => k_is)
    (case c3 => k_is)
    (case k3 => k_is)
    (case a4 => k_is)
    (case l4 => k_is)
    (case c4 => k_is)
    (case k4 => k_is)
    (case aC_Machine => k_is)
    (case a5 => k_is)
    (case i5 => k_is)
    (case l5 => k_is)
    (case c5 => k_is)
    (case k5 => k_is)
    (case a6 => k_is)
    (case l6 => k_is)
    (case c6 => k_is)
    (case k6 => k_is)
    (case a7 => k_is)
    (case l7 => k_is)
    (case c7 => k_is)
    (case k7 => k_is)
    (case a8 => k_is)
    (case l8 => k_is)
    (case c8 => k_is)
    (case k8 => k_is)
    (case a9 => k_is)
    (case l9 => k_is)
    (case c9 => k_is)
    (case k9 => k_is)
    (case a10 => k_is)
    (case l10 => k_is)
    (case c10 => k_is)
    (case k10 => k_is)
    (case a11 => k_is)
    (case l11 => k_is)
    (case c11 => k_is)
    (case k11 => k_is)
    (case a12 => k_is)
    (case l12 => k_is)
    (case c12 => k_is)
    (case k12 => k_is)
    (case a13 => k_is)
    (case l13 => k_is)
    (case c13 => k_is)
    (case k13 => k_is)
    (case a14 => k_is)
    (case l14 => k_is)
    (case c14 => k_is)
    (case k14 => k_is)
    (case a15 => k_is)
    (case l15 => k_is)
    (case c15 => k_is)
    (case k15 => k_is)
    (case a16 => k_is)
    (case l16 => k_is)
    (case c16 => k_is)
    (case k16 => k_is)
    (case a17 => k_is)
    (case l17 => k_is)
    (case c17 => k_is)
    (case k17 => k_is)
    (case a18 => k_is)
    (case l18 => k_is)
    (case c18 => k_is)
    (case k18 => k_is)
    (case a19 => k_is)
    (case l19 => k_is)
    (case c19 => k_is)
    (case k19 => k_is)
    (case a20 => k_is)
    (case l20 => k_is)
    (case c20 => k_is)
    (case k20 => k_is)
    (case a21 => k_is)
    (case l21 => k_is)
    (case c21 => k_is)
    (case k21 => k_is)
    (case a22 => k_is)
    (case l22 => k_is)
    (case c22 => k_is)
    (case k22 => k_is)
    (case a23 => k_is)
    (case l23 => k_is)
    (case c23 => k_is)
    (case k23 => k_is)
    (case a24 => k_is)
    (case l24 => k_is)
    (case c24 => k_is)
    (case k24 => k_is)
    (case a25 => k_is)
    (case l25 => k_is)
    (case c25 => k_is)
    (case k25 => k_is)
    (case a26 => k_is)
    (case l26 => k_is)
    (case c26 => k_is)
    (case k26 => k_is)
    (case a27 => k_is)
    (case l27 => k_is)
    (case c27 => k_is)
    (case k27 => k_is)
    (case a28 => k_is)
    (case l28 => k_is)
    (case c28 => k_is)
    (case k28 => k_is)
    (case pg_Machine => k_is)
    (case hd_Machine => k_is)
    (case po_Machine => k_is)
    (case sa_Machine => k_is)
    (case mk_Machine => k_is)
    (case kc_Machine => k_is)
    (case nf_Machine_commands => k_is)
    (case nf_Machine_states => k_is)
    (case nf_Machine_steps => k_is)
    (case nf_Machine__found => k_is)
    (case z_abs => k_is)
    (case z_all => k_is)
    (case z_bool => k_is)
    (case z_enumerate => k_is)
    (case z_int => k_is)
    (case z_isinstance => k_is)
    (case z_len => k_is)
    (case z_list => k_is)
    (case z_max => k_is)
    (case z_min => k_is)
    (case z_range => k_is)
    (case z_repr => k_is)
    (case z_sorted => k_is)
    (case z_tuple => k_is)
    (case z_super => k_is)
    (case opq => k_is)
    (case axInvalidMachine => k_is)
    (case lCxInvalidMachine => k_is)
    (case rvxInvalidMachine => rfl)
    (case saxInvalidMachine => k_is)
    (case exxInvalidMachine => k_is)
    (case tyxInvalidMachine => k_is)
    (case kCxInvalidMachine => k_is)
    (case iCxInvalidMachine => k_is)
    (case tIxInvalidMachine => k_is)
    (case lxInvalidMachine => k_is)
    (case cxInvalidMachine => k_is)
    (case lcdxInvalidMachine => k_is)
    (case hvxInvalidMachine => rfl)
    (case hfxInvalidMachine => rfl)
    (case lccxInvalidMachine => k_is)
    (case hcxInvalidMachine => k_is)
    (case suxInvalidMachine => k_is)
    (case spxInvalidMachine => ks_is)
    (case ivxInvalidMachine => k_is)
    (case naxInvalidMachine => k_is)
    (case gaxInvalidMachine => k_is)
    (case ggxInvalidMachine => k_is)
    (case hdxInvalidMachine => k_is)
    (case axInvalidSlip => k_is)
    (case lCxInvalidSlip => k_is)
    (case rvxInvalidSlip => rfl)
    (case saxInvalidSlip => k_is)
    (case exxInvalidSlip => k_is)
    (case tyxInvalidSlip => k_is)
    (case kCxInvalidSlip => k_is)
    (case iCxInvalidSlip => k_is)
    (case tIxInvalidSlip => k_is)
    (case lxInvalidSlip => k_is)
    (case cxInvalidSlip => k_is)
    (case lcdxInvalidSlip => k_is)
    (case hvxInvalidSlip => rfl)
    (case hfxInvalidSlip => rfl)
    (case lccxInvalidSlip => k_is)
    (case hcxInvalidSlip => k_is)
    (case suxInvalidSlip => k_is)
    (case spxInvalidSlip => ks_is)
    (case ivxInvalidSlip => k_is)
    (case naxInvalidSlip => k_is)
    (case gaxInvalidSlip => k_is)
    (case ggxInvalidSlip => k_is)
    (case hdxInvalidSlip => k_is)
    (case axRefused => k_is)
    (case lCxRefused => k_is)
    (case rvxRefused => rfl)
    (case saxRefused => k_is)
    (case exxRefused => k_is)
    (case tyxRefused => k_is)
    (case kCxRefused => k_is)
    (case iCxRefused => k_is)
    (case tIxRefused => k_is)
    (case lxRefused => k_is)
    (case cxRefused => k_is)
    (case lcdxRefused => k_is)
    (case hvxRefused => rfl)
    (case hfxRefused => rfl)
    (case lccxRefused => k_is)
    (case hcxRefused => k_is)
    (case suxRefused => k_is)
    (case spxRefused => ks_is)
    (case ivxRefused => k_is)
    (case naxRefused => k_is)
    (case gaxRefused => k_is)
    (case ggxRefused => k_is)
    (case hdxRefused => k_is)
    (case sb_InvalidMachine_InvalidMachine => k_is)
    (case sb_InvalidMachine_InvalidSlip => k_is)
    (case sb_InvalidMachine_Refused => k_is)
    (case sb_InvalidSlip_InvalidMachine => k_is)
    (case sb_InvalidSlip_InvalidSlip => k_is)
    (case sb_InvalidSlip_Refused => k_is)
    (case sb_Refused_InvalidMachine => k_is)
    (case sb_Refused_InvalidSlip => k_is)
    (case sb_Refused_Refused => k_is)

