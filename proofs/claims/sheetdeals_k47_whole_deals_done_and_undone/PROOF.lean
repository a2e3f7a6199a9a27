import PyProof.Rows.All
import Wide.All
import OpenK.AllK
import Wide.FinOn
import KE.KStateDown
import HandS.ForMost
import HandS.ForExc
import HandS.Defaults
import HandS.Evl
import HandS.Property
import HandS.IsInst
import HandS.Conv
import HandS.Wide
import HandS.Gcd
import HandS.Style
import HandS.OwnEq
import PyProof.InstNe
import OpenK.KOps
import PyProof.ReprNest
import PyProof.ReprRoads
import HandS.RaiseMore
import HandS.FStr
import HandS.WideBits
import HandS.Text
import HandS.TryOnly
import HandS.Head0
import HandS.Head1
import HandS.Head2
import HandS.HeadEnd
import HandS.HeadHook1
import HandS.HeadHook2
import HandS.HeadHook3
import HandS.HeadHook4
import HandS.Head3
import HandS.SortInts
import PyProof.TupleOfSeq
import HandS.TupLe
import PySem.Challenge.RW_sheetdeals_k47_whole_deals_done_and_undo
section
set_option Elab.async false
set_option linter.all false
set_option maxRecDepth 100000
set_option maxHeartbeats 4000000
/-! DL: values as data, what a heap says of them, states, denotations. -/
namespace DL
open PySem PySem.Spec PyProof.Rows L2
open Evl (Ex)

/-- a value as data -/
inductive D where
  | non | bl (b : Bool) | int (i : Int) | str (x : Str)
  | lst (ds : List D) | tup (ds : List D) | ins (c : Nat) (ds : List D) | pot | ed

/-- the two numbers of the drawing pot -/
abbrev Pt := Int × Int
/-- what is reckoned, with the pot threaded; none: nothing is said -/
abbrev Mo (α : Type) := Pt → Option (α × Pt)

/-- the classes: where they stand, the names of their instances' attributes in order -/
abbrev CT := Nat → Option (Addr × List Str)

section
variable (K : PySem.W.Frag) (cs : CT) (ap : Addr) (B : Hp)
mutual
def Rep : D → V → Prop
  | .non, v => v = .non
  | .bl b, v => v = .bl b
  | .int i, v => v = .int i
  | .str x, v => v = .str x
  | .lst ds, v => ∃ a xs, v = .ref a ∧ B a = some (.lst xs) ∧ Reps ds xs
  | .tup ds, v => ∃ a xs, v = .ref a ∧ SqT K B a xs ∧ Reps ds xs
  | .ins c ds, v => ∃ a C fn dx fs, v = .ref a ∧ cs c = some (C, fn) ∧ B a = some (.ins C dx fs) ∧ fs.map (·.1) = fn ∧ Reps ds (fs.map (·.2))
  | .pot, v => v = .ref ap
  | .ed, v => ∃ a, v = .ref a ∧ B a = some (.dK [])
def Reps : List D → List V → Prop
  | [], xs => xs = []
  | d :: ds, xs => ∃ x r, xs = x :: r ∧ Rep d x ∧ Reps ds r
end
end

section
variable {K : PySem.W.Frag} {cs : CT} {ap : Addr} {B B' : Hp}
theorem rep_mono_aux (e : Ex B B') : (∀ d v, Rep K cs ap B d v → Rep K cs ap B' d v) ∧ (∀ ds xs, Reps K cs ap B ds xs → Reps K cs ap B' ds xs) := by
  refine ⟨fun d => ?_, fun ds => ?_⟩
  · refine D.rec (motive_1 := fun d => ∀ v, Rep K cs ap B d v → Rep K cs ap B' d v) (motive_2 := fun ds => ∀ xs, Reps K cs ap B ds xs → Reps K cs ap B' ds xs)
      ?_ ?_ ?_ ?_ ?_ ?_ ?_ ?_ ?_ ?_ ?_ d
    · intro v h; simpa only [Rep] using h
    · intro b v h; simpa only [Rep] using h
    · intro b v h; simpa only [Rep] using h
    · intro b v h; simpa only [Rep] using h
    · intro ds ih v h
      simp only [Rep] at h ⊢
      obtain ⟨a, xs, rfl, h1, h2⟩ := h
      exact ⟨a, xs, rfl, e _ _ h1, ih _ h2⟩
    · intro ds ih v h
      simp only [Rep] at h ⊢
      obtain ⟨a, xs, rfl, h1, h2⟩ := h
      exact ⟨a, xs, rfl, Evl.ex_t e h1, ih _ h2⟩
    · intro c ds ih v h
      simp only [Rep] at h ⊢
      obtain ⟨a, C, fn, dx, fs, rfl, h0, h1, h2, h3⟩ := h
      exact ⟨a, C, fn, dx, fs, rfl, h0, e _ _ h1, h2, ih _ h3⟩
    · intro v h; simpa only [Rep] using h
    · intro v h
      simp only [Rep] at h ⊢
      obtain ⟨a, rfl, h1⟩ := h
      exact ⟨a, rfl, e _ _ h1⟩
    · intro xs h; simpa only [Reps] using h
    · intro d ds i1 i2 xs h
      simp only [Reps] at h ⊢
      obtain ⟨x, r, rfl, h1, h2⟩ := h
      exact ⟨x, r, rfl, i1 _ h1, i2 _ h2⟩
  · induction ds with
    | nil => intro xs h; simpa only [Reps] using h
    | cons d ds ih =>
      intro xs h
      simp only [Reps] at h ⊢
      obtain ⟨x, r, rfl, h1, h2⟩ := h
      refine ⟨x, r, rfl, ?_, ih _ h2⟩
      refine D.rec (motive_1 := fun d => ∀ v, Rep K cs ap B d v → Rep K cs ap B' d v) (motive_2 := fun ds => ∀ xs, Reps K cs ap B ds xs → Reps K cs ap B' ds xs)
        ?_ ?_ ?_ ?_ ?_ ?_ ?_ ?_ ?_ ?_ ?_ d x h1
      · intro v h; simpa only [Rep] using h
      · intro b v h; simpa only [Rep] using h
      · intro b v h; simpa only [Rep] using h
      · intro b v h; simpa only [Rep] using h
      · intro ds ih v h
        simp only [Rep] at h ⊢
        obtain ⟨a, xs, rfl, h1, h2⟩ := h
        exact ⟨a, xs, rfl, e _ _ h1, ih _ h2⟩
      · intro ds ih v h
        simp only [Rep] at h ⊢
        obtain ⟨a, xs, rfl, h1, h2⟩ := h
        exact ⟨a, xs, rfl, Evl.ex_t e h1, ih _ h2⟩
      · intro c ds ih v h
        simp only [Rep] at h ⊢
        obtain ⟨a, C, fn, dx, fs, rfl, h0, h1, h2, h3⟩ := h
        exact ⟨a, C, fn, dx, fs, rfl, h0, e _ _ h1, h2, ih _ h3⟩
      · intro v h; simpa only [Rep] using h
      · intro v h
        simp only [Rep] at h ⊢
        obtain ⟨a, rfl, h1⟩ := h
        exact ⟨a, rfl, e _ _ h1⟩
      · intro xs h; simpa only [Reps] using h
      · intro d ds i1 i2 xs h
        simp only [Reps] at h ⊢
        obtain ⟨x, r, rfl, h1, h2⟩ := h
        exact ⟨x, r, rfl, i1 _ h1, i2 _ h2⟩
theorem Rep.mono {d : D} {v : V} (h : Rep K cs ap B d v) (e : Ex B B') : Rep K cs ap B' d v := (rep_mono_aux e).1 d v h
theorem Reps.mono {ds : List D} {xs : List V} (h : Reps K cs ap B ds xs) (e : Ex B B') : Reps K cs ap B' ds xs := (rep_mono_aux e).2 ds xs h
theorem reps_nil : Reps K cs ap B [] [] := by simp only [Reps]
theorem reps_cons {d : D} {v : V} {ds : List D} {xs : List V} (h : Rep K cs ap B d v) (t : Reps K cs ap B ds xs) : Reps K cs ap B (d :: ds) (v :: xs) := by
  simp only [Reps]; exact ⟨v, xs, rfl, h, t⟩
theorem Reps.length : ∀ {ds : List D} {xs : List V}, Reps K cs ap B ds xs → xs.length = ds.length
  | [], xs, h => by simp only [Reps] at h; rw [h]; rfl
  | d :: ds, xs, h => by
    simp only [Reps] at h
    obtain ⟨x, r, rfl, _, h2⟩ := h
    rw [List.length_cons, List.length_cons, Reps.length h2]
theorem Reps.get : ∀ {ds : List D} {xs : List V} {i : Nat} {d : D}, Reps K cs ap B ds xs → ds[i]? = some d → ∃ x, xs[i]? = some x ∧ Rep K cs ap B d x
  | [], _, _, _, _, e => by simp at e
  | d :: ds, xs, 0, d', h, e => by
    simp only [Reps] at h
    obtain ⟨x, r, rfl, h1, h2⟩ := h
    simp at e; subst e
    exact ⟨x, rfl, h1⟩
  | d :: ds, xs, i + 1, d', h, e => by
    simp only [Reps] at h
    obtain ⟨x, r, rfl, h1, h2⟩ := h
    obtain ⟨y, h3, h4⟩ := Reps.get (i := i) h2 (by simpa using e)
    exact ⟨y, by simpa using h3, h4⟩
theorem Reps.append : ∀ {ds es : List D} {xs ys : List V}, Reps K cs ap B ds xs → Reps K cs ap B es ys → Reps K cs ap B (ds ++ es) (xs ++ ys)
  | [], _, xs, _, h, h' => by simp only [Reps] at h; subst h; exact h'
  | d :: ds, es, xs, ys, h, h' => by
    simp only [Reps] at h
    obtain ⟨x, r, rfl, h1, h2⟩ := h
    exact reps_cons h1 (Reps.append h2 h')
theorem Reps.take : ∀ {ds : List D} {xs : List V} (n : Nat), Reps K cs ap B ds xs → Reps K cs ap B (ds.take n) (xs.take n)
  | _, _, 0, _ => by simp [Reps]
  | [], xs, n + 1, h => by simp only [Reps] at h; subst h; simp [Reps]
  | d :: ds, xs, n + 1, h => by
    simp only [Reps] at h
    obtain ⟨x, r, rfl, h1, h2⟩ := h
    exact reps_cons h1 (Reps.take n h2)
theorem Reps.drop : ∀ {ds : List D} {xs : List V} (n : Nat), Reps K cs ap B ds xs → Reps K cs ap B (ds.drop n) (xs.drop n)
  | _, _, 0, h => h
  | [], xs, n + 1, h => by simp only [Reps] at h; subst h; simp [Reps]
  | d :: ds, xs, n + 1, h => by
    simp only [Reps] at h
    obtain ⟨x, r, rfl, h1, h2⟩ := h
    exact Reps.drop n h2
theorem Reps.set {d : D} {v : V} (r : Rep K cs ap B d v) : ∀ {ds : List D} {xs : List V} (i : Nat), Reps K cs ap B ds xs → Reps K cs ap B (ds.set i d) (xs.set i v)
  | [], xs, i, h => by simp only [Reps] at h; subst h; simp [Reps]
  | d' :: ds, xs, 0, h => by
    simp only [Reps] at h
    obtain ⟨x, t, rfl, h1, h2⟩ := h
    exact reps_cons r h2
  | d' :: ds, xs, i + 1, h => by
    simp only [Reps] at h
    obtain ⟨x, t, rfl, h1, h2⟩ := h
    exact reps_cons h1 (Reps.set r i h2)
theorem Reps.reverse : ∀ {ds : List D} {xs : List V}, Reps K cs ap B ds xs → Reps K cs ap B ds.reverse xs.reverse
  | [], xs, h => by simp only [Reps] at h; subst h; simp [Reps]
  | d :: ds, xs, h => by
    simp only [Reps] at h
    obtain ⟨x, t, rfl, h1, h2⟩ := h
    rw [List.reverse_cons, List.reverse_cons]
    exact (Reps.reverse h2).append (reps_cons h1 reps_nil)
theorem reps_ints : ∀ (ns : List Int), Reps K cs ap B (ns.map D.int) (ns.map V.int)
  | [] => by simp [Reps]
  | n :: ns => reps_cons (by simp only [Rep]) (reps_ints ns)
end

/-- from a heap to a later one: what B knows stays known, what stood stands (but the pot), nothing that stood becomes known -/
structure Nxt (ap : Addr) (B H B' H' : Hp) : Prop where
  bb : Ex B B'
  bh : Ex B' H'
  nw : ∀ a, H a ≠ none → B a = none → B' a = none
  fr : ∀ a o, H a = some o → a ≠ ap → H' a = some o
  nn : ∀ a, H a ≠ none → H' a ≠ none
def PotAt (ap : Addr) (H : Hp) (p : Pt) : Prop := H ap = some (.lst [.int p.1, .int p.2])
theorem Nxt.refl {ap : Addr} {B H : Hp} (e : Ex B H) : Nxt ap B H B H := ⟨Ex.refl _, e, fun _ _ h => h, fun _ _ h _ => h, fun _ h => h⟩
theorem Nxt.trans {ap : Addr} {B H B1 H1 B2 H2 : Hp} (a : Nxt ap B H B1 H1) (b : Nxt ap B1 H1 B2 H2) : Nxt ap B H B2 H2 :=
  ⟨a.bb.trans b.bb, b.bh, fun x h h' => b.nw x (a.nn x h) (a.nw x h h'), fun x o h hp => b.fr x o (a.fr x o h hp) hp, fun x h => b.nn x (a.nn x h)⟩
/-- a new object -/
theorem Nxt.new {ap : Addr} {B H : Hp} {q : Addr} {o : HO} (e : Ex B H) (h : H q = none) : Nxt ap B H (upd B q o) (upd H q o) := by
  have bq : B q = none := Evl.fresh_back e h
  refine ⟨Ex.new bq, fun a u ha => ?_, fun a ha hb => ?_, fun a u ha _ => ?_, fun a ha => ?_⟩
  · by_cases e1 : a = q
    · subst e1; rw [upd_same] at ha ⊢; exact ha
    · rw [upd_ne e1] at ha ⊢; exact e _ _ ha
  · have e1 : a ≠ q := fun z => ha (z ▸ h)
    rw [upd_ne e1]; exact hb
  · have e1 : a ≠ q := fun z => by rw [z, h] at ha; cases ha
    rw [upd_ne e1]; exact ha
  · have e1 : a ≠ q := fun z => ha (z ▸ h)
    rw [upd_ne e1]; exact ha
/-- a new object that is not known (it may change) -/
theorem Nxt.newU {ap : Addr} {B H : Hp} {q : Addr} {o : HO} (e : Ex B H) (h : H q = none) : Nxt ap B H B (upd H q o) := by
  have bq : B q = none := Evl.fresh_back e h
  refine ⟨Ex.refl _, fun a u ha => ?_, fun a ha hb => hb, fun a u ha _ => ?_, fun a ha => ?_⟩
  · have e1 : a ≠ q := fun z => by rw [z, bq] at ha; cases ha
    rw [upd_ne e1]; exact e _ _ ha
  · have e1 : a ≠ q := fun z => by rw [z, h] at ha; cases ha
    rw [upd_ne e1]; exact ha
  · have e1 : a ≠ q := fun z => ha (z ▸ h)
    rw [upd_ne e1]; exact ha
theorem PotAt.new {ap q : Addr} {H : Hp} {p : Pt} {o : HO} (h : PotAt ap H p) (hq : H q = none) : PotAt ap (upd H q o) p := by
  have e1 : ap ≠ q := fun z => by unfold PotAt at h; rw [z, hq] at h; cases h
  unfold PotAt; rw [upd_ne e1]; exact h

/-- a slot: nothing is said; it holds a datum; it holds a list that is this def's own; an instance that is being made -/
inductive SV where
  | un | val (d : D) | own (ds : List D) | mk (c : Nat) (ds : List D)
abbrev Env' := List SV
/-- only this def knows it -/
def SV.prv : SV → Bool
  | .own _ => true
  | .mk _ _ => true
  | _ => false

section
variable (K : PySem.W.Frag) (cs : CT) (ap : Addr)
def SlotOk (B H : Hp) : SV → Option (Option V) → Prop
  | .un, _ => True
  | .val d, o => ∃ v, o = some (some v) ∧ Rep K cs ap B d v
  | .own ds, o => ∃ a xs, o = some (some (.ref a)) ∧ B a = none ∧ H a = some (.lst xs) ∧ Reps K cs ap B ds xs
  | .mk c ds, o => ∃ a C fn dx fs, o = some (some (.ref a)) ∧ cs c = some (C, fn) ∧ B a = none ∧ H a = some (.ins C dx fs) ∧ fs.map (·.1) = fn.take ds.length ∧ fs.length = ds.length ∧ Reps K cs ap B ds (fs.map (·.2))

/-- the state in a def's body (entry: B0, H0) -/
structure Ok (H0 B0 B : Hp) (σ : L2.St) (env : Env') (H : Hp) (p : Pt) : Prop where
  st : Nxt ap B0 H0 B H
  pot : PotAt ap H p
  bap : B ap = none
  hap : H0 ap ≠ none
  sl : ∀ (i : Nat) sv, env[i]? = some sv → SlotOk K cs ap B H sv (σ[i]?)
  prvNew : ∀ (i : Nat) sv a, env[i]? = some sv → sv.prv = true → σ[i]? = some (some (.ref a)) → H0 a = none
  prvNe : ∀ (i j : Nat) sv sv' a, i ≠ j → env[i]? = some sv → env[j]? = some sv' → sv.prv = true → sv'.prv = true → σ[i]? = some (some (.ref a)) → σ[j]? ≠ some (some (.ref a))
  len : σ.length = env.length
  mkAt : ∀ (i : Nat) c ds a, env[i]? = some (.mk c ds) → σ[i]? = some (some (.ref a)) → H0 ap = some (.own a)
end

section
variable {K : PySem.W.Frag} {cs : CT} {ap : Addr} {H0 B0 B H B' H' : Hp} {σ : L2.St} {env : Env'} {p p' : Pt}
theorem Ok.bh (k : Ok K cs ap H0 B0 B σ env H p) : Ex B H := k.st.bh
theorem Ok.ownNew (k : Ok K cs ap H0 B0 B σ env H p) (i : Nat) (ds : List D) (a : Addr) (h : env[i]? = some (.own ds)) (h1 : σ[i]? = some (some (.ref a))) : H0 a = none := k.prvNew i _ a h rfl h1
theorem Ok.ownNe (k : Ok K cs ap H0 B0 B σ env H p) (i j : Nat) (ds es : List D) (a : Addr) (hn : i ≠ j) (h : env[i]? = some (.own ds)) (h' : env[j]? = some (.own es)) (h1 : σ[i]? = some (some (.ref a))) : σ[j]? ≠ some (some (.ref a)) := k.prvNe i j _ _ a hn h h' rfl rfl h1
theorem SlotOk.nxt {sv : SV} {o : Option (Option V)} (hs : SlotOk K cs ap B H sv o) (n : Nxt ap B H B' H') (hp : ∀ a, sv.prv = true → o = some (some (.ref a)) → a ≠ ap) : SlotOk K cs ap B' H' sv o := by
  cases sv with
  | un => trivial
  | val d => obtain ⟨v, h1, h2⟩ := hs; exact ⟨v, h1, h2.mono n.bb⟩
  | own ds =>
    obtain ⟨a, xs, h1, h2, h3, h4⟩ := hs
    exact ⟨a, xs, h1, n.nw a (by rw [h3]; exact fun z => nomatch z) h2, n.fr a _ h3 (hp a rfl h1), h4.mono n.bb⟩
  | mk c ds =>
    obtain ⟨a, C, fn, dx, fs, h1, h2, h3, h4, h5, h6, h7⟩ := hs
    exact ⟨a, C, fn, dx, fs, h1, h2, n.nw a (by rw [h4]; exact fun z => nomatch z) h3, n.fr a _ h4 (hp a rfl h1), h5, h6, h7.mono n.bb⟩
theorem Ok.nxt (k : Ok K cs ap H0 B0 B σ env H p) (n : Nxt ap B H B' H') (hp : PotAt ap H' p') : Ok K cs ap H0 B0 B' σ env H' p' := by
  have hh : H ap ≠ none := k.st.nn _ k.hap
  refine ⟨k.st.trans n, hp, n.nw _ hh k.bap, k.hap, fun i sv h => (k.sl i sv h).nxt n fun a h1 h2 z => ?_, k.prvNew, k.prvNe, k.len, k.mkAt⟩
  exact k.hap (z ▸ k.prvNew i sv a h h1 h2)
theorem SlotOk.un {o : Option (Option V)} : SlotOk K cs ap B H .un o := trivial
/-- a slot becomes a plain one -/
theorem Ok.setp (k : Ok K cs ap H0 B0 B σ env H p) {i : Nat} {sv : SV} {o : Option V} (hi : i < env.length) (hs : SlotOk K cs ap B H sv (some o)) (hp : sv.prv = false) : Ok K cs ap H0 B0 B (σ.set i o) (env.set i sv) H p := by
  refine ⟨k.st, k.pot, k.bap, k.hap, fun j sv' h => ?_, fun j sv' a h g h' => ?_, fun j l s1 s2 a hn h h' g1 g2 g => ?_, by rw [List.length_set, List.length_set]; exact k.len, fun j c ds a h g => ?_⟩
  · by_cases e : i = j
    · subst e
      rw [List.getElem?_set_self hi] at h
      cases h
      rw [List.getElem?_set_self (by rw [k.len]; exact hi)]
      exact hs
    · rw [List.getElem?_set_ne e] at h ⊢
      exact k.sl j sv' h
  · by_cases e : i = j
    · subst e; rw [List.getElem?_set_self hi] at h; cases h; rw [hp] at g; cases g
    · rw [List.getElem?_set_ne e] at h h'; exact k.prvNew j sv' a h g h'
  · by_cases e : i = j
    · subst e; rw [List.getElem?_set_self hi] at h; cases h; rw [hp] at g1; cases g1
    · by_cases e' : i = l
      · subst e'; rw [List.getElem?_set_self hi] at h'; cases h'; rw [hp] at g2; cases g2
      · rw [List.getElem?_set_ne e] at h g
        rw [List.getElem?_set_ne e'] at h' ⊢
        exact k.prvNe j l s1 s2 a hn h h' g1 g2 g
  · by_cases e : i = j
    · subst e; rw [List.getElem?_set_self hi] at h; cases h; cases hp
    · rw [List.getElem?_set_ne e] at h g; exact k.mkAt j c ds a h g
/-- a slot is set to a datum -/
theorem Ok.setv (k : Ok K cs ap H0 B0 B σ env H p) {i : Nat} {d : D} {v : V} (hi : i < env.length) (r : Rep K cs ap B d v) : Ok K cs ap H0 B0 B (σ.set i (some v)) (env.set i (.val d)) H p := k.setp hi ⟨v, rfl, r⟩ rfl
/-- a slot is set to a list of the def's own -/
theorem Ok.seto (k : Ok K cs ap H0 B0 B σ env H p) {i : Nat} {ds : List D} {a : Addr} {xs : List V} (hi : i < env.length) (hb : B a = none) (hh : H a = some (.lst xs)) (r : Reps K cs ap B ds xs)
    (h0 : H0 a = none) (hne : ∀ (j : Nat) es, j ≠ i → env[j]? = some (.own es) → σ[j]? ≠ some (some (.ref a))) : Ok K cs ap H0 B0 B (σ.set i (some (.ref a))) (env.set i (.own ds)) H p := by
  have hne' : ∀ (j : Nat) sv, j ≠ i → env[j]? = some sv → sv.prv = true → σ[j]? ≠ some (some (.ref a)) := by
    intro j sv hj h hp
    cases sv with
    | un => cases hp
    | val d => cases hp
    | own es => exact hne j es hj h
    | mk c es =>
      obtain ⟨b, C, fn, dx, fs, h1, _, _, h4, _⟩ := k.sl j _ h
      intro z
      rw [h1] at z
      cases z
      rw [hh] at h4
      cases h4
  refine ⟨k.st, k.pot, k.bap, k.hap, fun j sv h => ?_, fun j es b h g h' => ?_, fun j l es fs b hn h h' g1 g2 g => ?_, by rw [List.length_set, List.length_set]; exact k.len, fun j c ds a h g => ?_⟩
  · by_cases e : i = j
    · subst e
      rw [List.getElem?_set_self hi] at h
      cases h
      exact ⟨a, xs, List.getElem?_set_self (by rw [k.len]; exact hi), hb, hh, r⟩
    · rw [List.getElem?_set_ne e] at h ⊢
      exact k.sl j sv h
  · by_cases e : i = j
    · subst e
      rw [List.getElem?_set_self (by rw [k.len]; exact hi)] at h'
      cases h'
      exact h0
    · rw [List.getElem?_set_ne e] at h h'; exact k.prvNew j es b h g h'
  · by_cases e : i = j
    · subst e
      rw [List.getElem?_set_self (by rw [k.len]; exact hi)] at g
      cases g
      rw [List.getElem?_set_ne hn] at h' ⊢
      exact hne' l fs (fun z => hn z.symm) h' g2
    · by_cases e' : i = l
      · subst e'
        rw [List.getElem?_set_ne e] at h g
        rw [List.getElem?_set_self (by rw [k.len]; exact hi)]
        intro z
        cases z
        exact hne' j es (fun z => e z.symm) h g1 g
      · rw [List.getElem?_set_ne e] at h g
        rw [List.getElem?_set_ne e'] at h' ⊢
        exact k.prvNe j l es fs b hn h h' g1 g2 g
  · by_cases e : i = j
    · subst e; rw [List.getElem?_set_self hi] at h; cases h
    · rw [List.getElem?_set_ne e] at h g; exact k.mkAt j c ds a h g
/-- less is said of a slot; a private one becomes plain -/
theorem Ok.setd (k : Ok K cs ap H0 B0 B σ env H p) {i : Nat} {sv : SV} (hs : i < env.length → SlotOk K cs ap B H sv (σ[i]?)) (hp : sv.prv = false) : Ok K cs ap H0 B0 B σ (env.set i sv) H p := by
  by_cases hi : i < env.length
  · have hs := hs hi
    refine ⟨k.st, k.pot, k.bap, k.hap, fun j sv' h => ?_, fun j sv' a h g h' => ?_, fun j l s1 s2 a hn h h' g1 g2 g => ?_, by rw [List.length_set]; exact k.len, fun j c ds a h g => ?_⟩
    · by_cases e : i = j
      · subst e; rw [List.getElem?_set_self hi] at h; cases h; exact hs
      · rw [List.getElem?_set_ne e] at h; exact k.sl j sv' h
    · by_cases e : i = j
      · subst e; rw [List.getElem?_set_self hi] at h; cases h; rw [hp] at g; cases g
      · rw [List.getElem?_set_ne e] at h; exact k.prvNew j sv' a h g h'
    · by_cases e : i = j
      · subst e; rw [List.getElem?_set_self hi] at h; cases h; rw [hp] at g1; cases g1
      · by_cases e' : i = l
        · subst e'; rw [List.getElem?_set_self hi] at h'; cases h'; rw [hp] at g2; cases g2
        · rw [List.getElem?_set_ne e] at h
          rw [List.getElem?_set_ne e'] at h'
          exact k.prvNe j l s1 s2 a hn h h' g1 g2 g
    · by_cases e : i = j
      · subst e; rw [List.getElem?_set_self hi] at h; cases h; cases hp
      · rw [List.getElem?_set_ne e] at h; exact k.mkAt j c ds a h g
  · rw [List.set_eq_of_length_le (by omega)]; exact k
/-- more is known: a private object at a -/
theorem Ok.know (k : Ok K cs ap H0 B0 B σ env H p) {i : Nat} {sv : SV} {a : Addr} {o : HO} (h : env[i]? = some sv) (hp : sv.prv = true) (h1 : σ[i]? = some (some (.ref a))) (h2 : B a = none) (h3 : H a = some o) :
    Ex B (upd B a o) ∧ Ok K cs ap H0 B0 (upd B a o) σ (env.set i .un) H p := by
  have ha : H0 a = none := k.prvNew i sv a h hp h1
  have hi : i < env.length := (List.getElem?_eq_some_iff.mp h).1
  have nap : a ≠ ap := fun z => k.hap (z ▸ ha)
  have e1 : Ex B (upd B a o) := Ex.new h2
  refine ⟨e1, ⟨⟨k.st.bb.trans e1, fun b u hb => ?_, fun b hb hb' => ?_, k.st.fr, k.st.nn⟩, k.pot, by rw [upd_ne (fun z => nap z.symm)]; exact k.bap, k.hap, fun j sv' hj => ?_, fun j sv' b hj g1 g => ?_, fun j l s1 s2 b hn hj hl g1 g2 g => ?_, by rw [List.length_set]; exact k.len, fun j c ds b hj g => ?_⟩⟩
  · by_cases e : b = a
    · subst e; rw [upd_same] at hb; rw [h3]; exact hb
    · rw [upd_ne e] at hb; exact k.bh _ _ hb
  · have e : b ≠ a := fun z => hb (z ▸ ha)
    rw [upd_ne e]; exact k.st.nw b hb hb'
  · by_cases e : i = j
    · subst e; rw [List.getElem?_set_self hi] at hj; cases hj; trivial
    · rw [List.getElem?_set_ne e] at hj
      have hs := k.sl j sv' hj
      cases sv' with
      | un => trivial
      | val d => obtain ⟨v, g1, g2⟩ := hs; exact ⟨v, g1, g2.mono e1⟩
      | own es =>
        obtain ⟨b, ys, g1, g2, g3, g4⟩ := hs
        have ne : b ≠ a := fun z => by subst z; exact k.prvNe i j sv (.own es) b e h hj hp rfl h1 g1
        exact ⟨b, ys, g1, by rw [upd_ne ne]; exact g2, g3, g4.mono e1⟩
      | mk c es =>
        obtain ⟨b, C, fn, dx, fs, g1, g2, g3, g4, g5, g6, g7⟩ := hs
        have ne : b ≠ a := fun z => by subst z; exact k.prvNe i j sv (.mk c es) b e h hj hp rfl h1 g1
        exact ⟨b, C, fn, dx, fs, g1, g2, by rw [upd_ne ne]; exact g3, g4, g5, g6, g7.mono e1⟩
  · by_cases e : i = j
    · subst e; rw [List.getElem?_set_self hi] at hj; cases hj; cases g1
    · rw [List.getElem?_set_ne e] at hj; exact k.prvNew j sv' b hj g1 g
  · by_cases e : i = j
    · subst e; rw [List.getElem?_set_self hi] at hj; cases hj; cases g1
    · by_cases e' : i = l
      · subst e'; rw [List.getElem?_set_self hi] at hl; cases hl; cases g2
      · rw [List.getElem?_set_ne e] at hj
        rw [List.getElem?_set_ne e'] at hl
        exact k.prvNe j l s1 s2 b hn hj hl g1 g2 g
  · by_cases e : i = j
    · subst e; rw [List.getElem?_set_self hi] at hj; cases hj
    · rw [List.getElem?_set_ne e] at hj; exact k.mkAt j c ds b hj g
/-- an own list becomes a datum -/
theorem Ok.freeze (k : Ok K cs ap H0 B0 B σ env H p) {i : Nat} {ds : List D} (h : env[i]? = some (.own ds)) : ∃ B', Ex B B' ∧ Ok K cs ap H0 B0 B' σ (env.set i (.val (.lst ds))) H p := by
  obtain ⟨a, xs, h1, h2, h3, h4⟩ := k.sl i _ h
  obtain ⟨e1, k1⟩ := k.know h rfl h1 h2 h3
  have k2 := k1.setd (i := i) (sv := .val (.lst ds)) (fun _ => ⟨_, h1, by simp only [Rep]; exact ⟨a, xs, rfl, upd_same, h4.mono e1⟩⟩) rfl
  rw [List.set_set] at k2
  exact ⟨_, e1, k2⟩
/-- a private object is changed -/
theorem Ok.mutp (k : Ok K cs ap H0 B0 B σ env H p) {i : Nat} {sv sv' : SV} {a : Addr} {o' : HO} (h : env[i]? = some sv) (hp : sv.prv = true) (h1 : σ[i]? = some (some (.ref a))) (h2 : B a = none) (hp' : sv'.prv = true) (hs : SlotOk K cs ap B (upd H a o') sv' (some (some (.ref a)))) (hmk : ∀ c ds, sv' = .mk c ds → ∃ c' ds', sv = .mk c' ds') :
    Ok K cs ap H0 B0 B σ (env.set i sv') (upd H a o') p := by
  have hi : i < env.length := (List.getElem?_eq_some_iff.mp h).1
  have ha : H0 a = none := k.prvNew i sv a h hp h1
  have nap : a ≠ ap := fun z => k.hap (z ▸ ha)
  refine ⟨⟨k.st.bb, fun b o hb => ?_, k.st.nw, fun b o hb hn => ?_, fun b hb => ?_⟩, ?_, k.bap, k.hap, fun j s1 hj => ?_, fun j s1 b hj g1 g => ?_, fun j l s1 s2 b hn hj hl g1 g2 g => ?_, by rw [List.length_set]; exact k.len, fun j c ds b hj g => ?_⟩
  · have e : b ≠ a := fun z => by rw [z, h2] at hb; cases hb
    rw [upd_ne e]; exact k.bh _ _ hb
  · have e : b ≠ a := fun z => by rw [z, ha] at hb; cases hb
    rw [upd_ne e]; exact k.st.fr b o hb hn
  · have e : b ≠ a := fun z => hb (z ▸ ha)
    rw [upd_ne e]; exact k.st.nn b hb
  · unfold PotAt; rw [upd_ne (fun z => nap z.symm)]; exact k.pot
  · by_cases e : i = j
    · subst e
      rw [List.getElem?_set_self hi] at hj
      cases hj
      rw [h1]
      exact hs
    · rw [List.getElem?_set_ne e] at hj
      have hs := k.sl j s1 hj
      cases s1 with
      | un => trivial
      | val d => exact hs
      | own es =>
        obtain ⟨b, ys, g1, g2, g3, g4⟩ := hs
        have ne : b ≠ a := fun z => by subst z; exact k.prvNe i j sv (.own es) b e h hj hp rfl h1 g1
        exact ⟨b, ys, g1, g2, by rw [upd_ne ne]; exact g3, g4⟩
      | mk c es =>
        obtain ⟨b, C, fn, dx, fs, g1, g2, g3, g4, g5, g6, g7⟩ := hs
        have ne : b ≠ a := fun z => by subst z; exact k.prvNe i j sv (.mk c es) b e h hj hp rfl h1 g1
        exact ⟨b, C, fn, dx, fs, g1, g2, g3, by rw [upd_ne ne]; exact g4, g5, g6, g7⟩
  · by_cases e : i = j
    · subst e; exact k.prvNew i sv b h hp g
    · rw [List.getElem?_set_ne e] at hj; exact k.prvNew j s1 b hj g1 g
  · by_cases e : i = j
    · subst e
      rw [List.getElem?_set_ne hn] at hl
      exact k.prvNe i l sv s2 b hn h hl hp g2 g
    · by_cases e' : i = l
      · subst e'
        rw [List.getElem?_set_ne e] at hj
        exact k.prvNe j i s1 sv b hn hj h g1 hp g
      · rw [List.getElem?_set_ne e] at hj
        rw [List.getElem?_set_ne e'] at hl
        exact k.prvNe j l s1 s2 b hn hj hl g1 g2 g
  · by_cases e : i = j
    · subst e
      rw [List.getElem?_set_self hi] at hj
      cases hj
      obtain ⟨c', ds', z⟩ := hmk c ds rfl
      subst z
      exact k.mkAt i c' ds' b h g
    · rw [List.getElem?_set_ne e] at hj; exact k.mkAt j c ds b hj g
/-- an own list is changed -/
theorem Ok.mut (k : Ok K cs ap H0 B0 B σ env H p) {i : Nat} {ds ds' : List D} {a : Addr} {xs' : List V} (h : env[i]? = some (.own ds)) (h1 : σ[i]? = some (some (.ref a))) (r : Reps K cs ap B ds' xs') :
    Ok K cs ap H0 B0 B σ (env.set i (.own ds')) (upd H a (.lst xs')) p := by
  obtain ⟨a', xs, h1', h2, h3, h4⟩ := k.sl i _ h
  rw [h1] at h1'
  cases h1'
  exact k.mutp h rfl h1 h2 rfl ⟨a, xs', rfl, h2, upd_same, r⟩ (fun c ds z => nomatch z)
/-- less is said of a slot -/
theorem Ok.drop (k : Ok K cs ap H0 B0 B σ env H p) {i : Nat} : Ok K cs ap H0 B0 B σ (env.set i .un) H p := k.setd (fun _ => trivial) rfl
end
end DL
end

section
set_option Elab.async false
set_option linter.all false
set_option maxRecDepth 100000
set_option maxHeartbeats 4000000
/-! DL: expressions. -/
namespace DL
open PySem PySem.Spec PyProof.Rows L2
open Evl (Ex)

def retM {α : Type} (a : α) : Mo α := fun p => some (a, p)
def failM {α : Type} : Mo α := fun _ => none
def bindM {α β : Type} (m : Mo α) (f : α → Mo β) : Mo β := fun p => match m p with
  | none => none
  | some (a, p') => f a p'
@[simp] theorem bindM_ret {α β : Type} (a : α) (f : α → Mo β) : bindM (retM a) f = f a := rfl
@[simp] theorem bindM_fail {α β : Type} (f : α → Mo β) : bindM failM f = failM := rfl
theorem bindM_some {α β : Type} {m : Mo α} {f : α → Mo β} {p p' : Pt} {b : β} (h : bindM m f p = some (b, p')) : ∃ a p1, m p = some (a, p1) ∧ f a p1 = some (b, p') := by
  unfold bindM at h
  cases e : m p with
  | none => rw [e] at h; cases h
  | some q => obtain ⟨a, p1⟩ := q; rw [e] at h; exact ⟨a, p1, rfl, h⟩
@[simp] theorem bindM_assoc {α β γ : Type} (m : Mo α) (f : α → Mo β) (g : β → Mo γ) : bindM (bindM m f) g = bindM m fun a => bindM (f a) g := by
  funext p
  unfold bindM
  cases m p with
  | none => rfl
  | some q => rfl

/-- ends of an evaluation: a datum; a list that nothing else knows; a truth; data -/
def KE (K : PySem.W.Frag) (cs : CT) (ap : Addr) (B H : Hp) (p' : Pt) (d : D) (Q : VK) : Prop := ∀ B' H' v, Nxt ap B H B' H' → PotAt ap H' p' → Rep K cs ap B' d v → Q v H'
def KO (K : PySem.W.Frag) (cs : CT) (ap : Addr) (B H : Hp) (p' : Pt) (ds : List D) (Q : VK) : Prop :=
  ∀ B' H' a xs, Nxt ap B H B' H' → PotAt ap H' p' → H a = none → B' a = none → H' a = some (.lst xs) → Reps K cs ap B' ds xs → Q (.ref a) H'
def KT (ap : Addr) (B H : Hp) (p' : Pt) (b : Bool) (Q : Bool → Hp → Prop) : Prop := ∀ B' H', Nxt ap B H B' H' → PotAt ap H' p' → Q b H'
def KA (K : PySem.W.Frag) (cs : CT) (ap : Addr) (B H : Hp) (p' : Pt) (ds : List D) (Q : List V → Hp → Prop) : Prop := ∀ B' H' vs, Nxt ap B H B' H' → PotAt ap H' p' → Reps K cs ap B' ds vs → Q vs H'

section
variable (K : PySem.W.Frag) (cs : CT)
def EvE (te : TE) (m : Env' → Mo D) : Prop := ∀ ap H0 B0 B σ env H p (Q : VK) d p', Ok K cs ap H0 B0 B σ env H p → m env p = some (d, p') → KE K cs ap B H p' d Q → te σ H Q
def EvO (te : TE) (m : Env' → Mo (List D)) : Prop := ∀ ap H0 B0 B σ env H p (Q : VK) ds p', Ok K cs ap H0 B0 B σ env H p → m env p = some (ds, p') → KO K cs ap B H p' ds Q → te σ H Q
def EvT (tt : TT) (m : Env' → Mo Bool) : Prop := ∀ ap H0 B0 B σ env H p (Q : Bool → Hp → Prop) b p', Ok K cs ap H0 B0 B σ env H p → m env p = some (b, p') → KT ap B H p' b Q → tt σ H Q
def EvA (ta : TA) (m : Env' → Mo (List D)) : Prop := ∀ ap H0 B0 B σ env H p (Q : List V → Hp → Prop) ds p', Ok K cs ap H0 B0 B σ env H p → m env p = some (ds, p') → KA K cs ap B H p' ds Q → ta σ H Q
end
section
variable (cs : CT) (X : Cx)
structure PED (e : Expr) (m : Env' → Mo D) : Prop where
  ex : ∃ te, PE X e te ∧ EvE X.K cs te m
structure POD (e : Expr) (m : Env' → Mo (List D)) : Prop where
  ex : ∃ te, PE X e te ∧ EvO X.K cs te m
structure PTD (e : Expr) (m : Env' → Mo Bool) : Prop where
  ex : ∃ tt, PT X e tt ∧ EvT X.K cs tt m
structure PWD (e : Expr) (m : Env' → Mo Bool) : Prop where
  ex : ∃ tt, PW X e tt ∧ EvT X.K cs tt m
structure PAD (es : List Expr) (m : Env' → Mo (List D)) : Prop where
  ex : ∃ ta, PA X es ta ∧ EvA X.K cs ta m
end

/-! ### denotations -/
def mVar (i : Nat) : Env' → Mo D := fun env => match env[i]? with
  | some (.val d) => retM d
  | _ => failM
def mC (d : D) : Env' → Mo D := fun _ => retM d
def mBin (f : D → D → Mo D) (a b : Env' → Mo D) : Env' → Mo D := fun env => bindM (a env) fun x => bindM (b env) fun y => f x y
def mUn (f : D → Mo D) (a : Env' → Mo D) : Env' → Mo D := fun env => bindM (a env) f
def mLst (m : Env' → Mo (List D)) : Env' → Mo D := fun env => bindM (m env) fun ds => retM (.lst ds)
def mTup (m : Env' → Mo (List D)) : Env' → Mo D := fun env => bindM (m env) fun ds => if ds.length ≤ 100000 then retM (.tup ds) else failM
def mNew (m : Env' → Mo (List D)) : Env' → Mo (List D) := fun env => bindM (m env) fun ds => if ds.length ≤ 100000 then retM ds else failM
def mNil : Env' → Mo (List D) := fun _ => retM []
def mCons (a : Env' → Mo D) (m : Env' → Mo (List D)) : Env' → Mo (List D) := fun env => bindM (a env) fun x => bindM (m env) fun xs => retM (x :: xs)
/-- a truth out of a value that is a bool -/
def mB (a : Env' → Mo D) : Env' → Mo Bool := fun env => bindM (a env) fun x => match x with
  | .bl b => retM b
  | _ => failM
/-- a value out of a truth -/
def mTV (a : Env' → Mo Bool) : Env' → Mo D := fun env => bindM (a env) fun b => retM (.bl b)
def mAnd (a b : Env' → Mo Bool) : Env' → Mo Bool := fun env => bindM (a env) fun x => if x = true then b env else retM false
def mOr (a b : Env' → Mo Bool) : Env' → Mo Bool := fun env => bindM (a env) fun x => if x = true then retM true else b env
def mNot (a : Env' → Mo Bool) : Env' → Mo Bool := fun env => bindM (a env) fun x => retM (!x)
def mIf {α : Type} (c : Env' → Mo Bool) (a b : Env' → Mo α) : Env' → Mo α := fun env => bindM (c env) fun x => if x = true then a env else b env
def mCall (f : List D → Mo D) (m : Env' → Mo (List D)) : Env' → Mo D := fun env => bindM (m env) f
def mCallO (f : List D → Mo (List D)) (m : Env' → Mo (List D)) : Env' → Mo (List D) := fun env => bindM (m env) f

section
variable {cs : CT} {X : Cx} {e a b c : Expr} {es : List Expr} {m ma mb : Env' → Mo D} {pos : Pos}

/-- a fresh list as a datum -/
theorem POD.d {m : Env' → Mo (List D)} (h : POD cs X e m) : PED cs X e (mLst m) := by
  obtain ⟨te, h1, h2⟩ := h.ex
  refine ⟨te, h1, fun ap H0 B0 B σ env H p Q d p' k hm q => ?_⟩
  obtain ⟨ds, p1, e1, e2⟩ := bindM_some hm
  cases e2
  refine h2 ap H0 B0 B σ env H p Q ds p' k e1 fun B' H' a xs n hp hn hb hh r => ?_
  have ex : Ex B' (upd B' a (.lst xs)) := Ex.new hb
  refine q (upd B' a (.lst xs)) H' (.ref a) ⟨n.bb.trans ex, fun b o hbo => ?_, fun b hb1 hb2 => ?_, n.fr, n.nn⟩ hp (by simp only [Rep]; exact ⟨a, xs, rfl, upd_same, r.mono ex⟩)
  · by_cases z : b = a
    · subst z; rw [upd_same] at hbo; rw [hh]; exact hbo
    · rw [upd_ne z] at hbo; exact n.bh _ _ hbo
  · have z : b ≠ a := fun z => hb1 (z ▸ hn)
    rw [upd_ne z]; exact n.nw b hb1 hb2

theorem p_var (i : Nat) {x : Str} (hN : X.N[i]? = some x := by rfl) (hv : Vis X.env.scope x := by first | exact Or.inl rfl | exact Or.inr (Or.inl rfl) | exact Or.inr (Or.inr rfl)) (hd : (x == ("__debug__" : Str)) = false := by decide)
    (hcd : (x == ("__classdict__" : Str)) = false := by decide) : PED cs X (.Name x pos) (mVar i) := by
  refine ⟨tVar i, pe_var hN hv hd hcd, fun ap H0 B0 B σ env H p Q d p' k hm q => ?_⟩
  unfold mVar at hm
  cases g : env[i]? with
  | none => rw [g] at hm; cases hm
  | some sv =>
    rw [g] at hm
    cases sv with
    | un => cases hm
    | own ds => cases hm
    | mk c ds => cases hm
    | val d' =>
      cases hm
      obtain ⟨v, h1, h2⟩ := k.sl i _ g
      exact ⟨v, h1, q B H v (Nxt.refl k.bh) k.pot h2⟩
theorem p_const {v : V} {d : D} (h : PE X e (tC v)) (r : ∀ ap B, Rep X.K cs ap B d v) : PED cs X e (mC d) := by
  refine ⟨tC v, h, fun ap H0 B0 B σ env H p Q d' p' k hm q => ?_⟩
  cases hm
  exact q B H v (Nxt.refl k.bh) k.pot (r ap B)
theorem p_int {i j} : PED cs X (.Constant (.int i) j pos) (mC (.int i)) := p_const pe_int fun _ _ => by simp only [Rep]
theorem p_bl {b j} : PED cs X (.Constant (.bool b) j pos) (mC (.bl b)) := p_const pe_bl fun _ _ => by simp only [Rep]
theorem p_non {j} : PED cs X (.Constant .none j pos) (mC .non) := p_const pe_non fun _ _ => by simp only [Rep]
theorem p_str {x j} : PED cs X (.Constant (.str x) j pos) (mC (.str x)) := p_const pe_str fun _ _ => by simp only [Rep]
/-- a constant of the module -/
theorem p_gint {x : Str} {i : Int} {t : Tok} (hg : Gl X x) (hm : X.mg x = some (.int i t)) (hd : (x == ("__debug__" : Str)) = false := by decide) : PED cs X (.Name x pos) (mC (.int i)) :=
  p_const (pe_glob hg hm (v := .int i) ⟨t, rfl⟩ hd) fun _ _ => by simp only [Rep]
theorem p_gstr {x z : Str} {t : Tok} (hg : Gl X x) (hm : X.mg x = some (.str z t)) (hd : (x == ("__debug__" : Str)) = false := by decide) : PED cs X (.Name x pos) (mC (.str z)) :=
  p_const (pe_glob hg hm (v := .str z) ⟨t, rfl⟩ hd) fun _ _ => by simp only [Rep]

/-- a two-place operation -/
def OpD (cs : CT) (X : Cx) (f : Value → Value → Sem Value) (m : D → D → Mo D) : Prop :=
  ∃ r : R2, OpR X f r ∧ ∀ ap B H p x y v u (Q : VK) d p', Ex B H → PotAt ap H p → B ap = none → Rep X.K cs ap B x v → Rep X.K cs ap B y u → m x y p = some (d, p') → KE X.K cs ap B H p' d Q → r v u H Q
theorem bin_ev {K : PySem.W.Frag} {r : R2} {f : D → D → Mo D} {ta tb : TE} (ha : EvE K cs ta ma) (hb : EvE K cs tb mb)
    (hr : ∀ ap B H p x y v u (Q : VK) d p', Ex B H → PotAt ap H p → B ap = none → Rep K cs ap B x v → Rep K cs ap B y u → f x y p = some (d, p') → KE K cs ap B H p' d Q → r v u H Q) : EvE K cs (tOp r ta tb) (mBin f ma mb) := by
  intro ap H0 B0 B σ env H p Q d p' k hm q
  obtain ⟨x, p1, e1, e2⟩ := bindM_some hm
  obtain ⟨y, p2, e3, e4⟩ := bindM_some e2
  refine ha ap H0 B0 B σ env H p _ x p1 k e1 fun B1 H1 v n1 hp1 r1 => ?_
  have k1 := k.nxt n1 hp1
  refine hb ap H0 B0 B1 σ env H1 p1 _ y p2 k1 e3 fun B2 H2 u n2 hp2 r2 => ?_
  have k2 := k1.nxt n2 hp2
  exact hr ap B2 H2 p2 x y v u Q d p' k2.bh hp2 k2.bap (r1.mono n2.bb) r2 e4 fun B' H' w n3 hp3 r3 => q B' H' w ((n1.trans n2).trans n3) hp3 r3
theorem p_bin {op : Operator} {f : D → D → Mo D} (ho : OpD cs X (binaryOp op) f) (ha : PED cs X a ma) (hb : PED cs X b mb) : PED cs X (.BinOp a op b pos) (mBin f ma mb) := by
  obtain ⟨ta, a1, a2⟩ := ha.ex
  obtain ⟨tb, b1, b2⟩ := hb.ex
  obtain ⟨r, h1, h2⟩ := ho
  exact ⟨tOp r ta tb, pe_op h1 a1 b1, bin_ev a2 b2 h2⟩
theorem p_cmp {op : CmpOp} {f : D → D → Mo D} (ho : OpD cs X (compareOp op) f) (ha : PED cs X a ma) (hb : PED cs X b mb) (hm : behindInMarks op b = false) : PED cs X (.Compare a [op] [b] pos) (mBin f ma mb) := by
  obtain ⟨ta, a1, a2⟩ := ha.ex
  obtain ⟨tb, b1, b2⟩ := hb.ex
  obtain ⟨r, h1, h2⟩ := ho
  exact ⟨tOp r ta tb, pe_cmpR h1 a1 b1 hm, bin_ev a2 b2 h2⟩
theorem evT_of {K : PySem.W.Frag} {te : TE} (h : EvE K cs te m) : EvT K cs (tTest te) (mB m) := by
  intro ap H0 B0 B σ env H p Q b p' k hm q
  obtain ⟨x, p1, e1, e2⟩ := bindM_some hm
  cases x <;> first | (cases e2; done) | skip
  cases e2
  refine h ap H0 B0 B σ env H p _ _ p' k e1 fun B1 H1 v n1 hp1 r1 => ?_
  simp only [Rep] at r1
  exact ⟨b, r1, q B1 H1 n1 hp1⟩
theorem pt_cmp {op : CmpOp} {f : D → D → Mo D} (ho : OpD cs X (compareOp op) f) (ha : PED cs X a ma) (hb : PED cs X b mb) (hm : behindInMarks op b = false) : PTD cs X (.Compare a [op] [b] pos) (mB (mBin f ma mb)) := by
  obtain ⟨ta, a1, a2⟩ := ha.ex
  obtain ⟨tb, b1, b2⟩ := hb.ex
  obtain ⟨r, h1, h2⟩ := ho
  exact ⟨_, pt_cmpR h1 a1 b1 hm, evT_of (bin_ev a2 b2 h2)⟩
/-- a call, a name, a subscript, an attribute as a test: a bool -/
theorem pt_v (h : PED cs X e m) (he : ∀ whole, isTrue e X.env whole = (do let v ← whole; standAt e.pos; holding [v] (truthy v)) := by intro _; rfl) : PTD cs X e (mB m) := by
  obtain ⟨te, h1, h2⟩ := h.ex
  exact ⟨_, pt_val h1 he, evT_of h2⟩
theorem pt_not {ma : Env' → Mo Bool} (ha : PTD cs X a ma) : PTD cs X (.UnaryOp .Not a pos) (mNot ma) := by
  obtain ⟨ta, a1, a2⟩ := ha.ex
  refine ⟨_, L2.pt_not a1, fun ap H0 B0 B σ env H p Q b p' k hm q => ?_⟩
  obtain ⟨x, p1, e1, e2⟩ := bindM_some hm
  cases e2
  exact a2 ap H0 B0 B σ env H p _ x p' k e1 fun B1 H1 n1 hp1 => q B1 H1 n1 hp1
theorem and_ev {K : PySem.W.Frag} {t u : TT} {ma mb : Env' → Mo Bool} (ha : EvT K cs t ma) (hb : EvT K cs u mb) : EvT K cs (tAnd t u) (mAnd ma mb) := by
  intro ap H0 B0 B σ env H p Q b p' k hm q
  obtain ⟨x, p1, e1, e2⟩ := bindM_some hm
  refine ha ap H0 B0 B σ env H p _ x p1 k e1 fun B1 H1 n1 hp1 => ?_
  cases x with
  | true =>
    rw [if_pos rfl] at e2 ⊢
    exact hb ap H0 B0 B1 σ env H1 p1 _ b p' (k.nxt n1 hp1) e2 fun B2 H2 n2 hp2 => q B2 H2 (n1.trans n2) hp2
  | false =>
    rw [if_neg (by decide)] at e2 ⊢
    cases e2
    exact q B1 H1 n1 hp1
theorem or_ev {K : PySem.W.Frag} {t u : TT} {ma mb : Env' → Mo Bool} (ha : EvT K cs t ma) (hb : EvT K cs u mb) : EvT K cs (tOr t u) (mOr ma mb) := by
  intro ap H0 B0 B σ env H p Q b p' k hm q
  obtain ⟨x, p1, e1, e2⟩ := bindM_some hm
  refine ha ap H0 B0 B σ env H p _ x p1 k e1 fun B1 H1 n1 hp1 => ?_
  cases x with
  | true =>
    rw [if_pos rfl] at e2 ⊢
    cases e2
    exact q B1 H1 n1 hp1
  | false =>
    rw [if_neg (by decide)] at e2 ⊢
    exact hb ap H0 B0 B1 σ env H1 p1 _ b p' (k.nxt n1 hp1) e2 fun B2 H2 n2 hp2 => q B2 H2 (n1.trans n2) hp2
theorem pw_one {op} {ma : Env' → Mo Bool} (ha : PTD cs X a ma) (ho : op = .And ∨ op = .Or := by first | exact .inl rfl | exact .inr rfl) : PWD cs X (.BoolOp op [a] pos) ma := by
  obtain ⟨ta, a1, a2⟩ := ha.ex
  rcases ho with rfl | rfl
  · exact ⟨_, pw_and1 a1, a2⟩
  · exact ⟨_, pw_or1 a1, a2⟩
theorem pw_and {ma mb : Env' → Mo Bool} (ha : PTD cs X a ma) (hb : PWD cs X (.BoolOp .And (b :: es) pos) mb) : PWD cs X (.BoolOp .And (a :: b :: es) pos) (mAnd ma mb) := by
  obtain ⟨ta, a1, a2⟩ := ha.ex
  obtain ⟨tb, b1, b2⟩ := hb.ex
  exact ⟨_, L2.pw_and a1 b1, and_ev a2 b2⟩
theorem pw_or {ma mb : Env' → Mo Bool} (ha : PTD cs X a ma) (hb : PWD cs X (.BoolOp .Or (b :: es) pos) mb) : PWD cs X (.BoolOp .Or (a :: b :: es) pos) (mOr ma mb) := by
  obtain ⟨ta, a1, a2⟩ := ha.ex
  obtain ⟨tb, b1, b2⟩ := hb.ex
  exact ⟨_, L2.pw_or a1 b1, or_ev a2 b2⟩
theorem PWD.pt {ma : Env' → Mo Bool} (h : PWD cs X a ma) : PTD cs X a ma := by
  obtain ⟨ta, a1, a2⟩ := h.ex
  exact ⟨ta, a1.pt, a2⟩
/-- and, or, not as values: bools -/
theorem p_one {op} (ha : PED cs X a ma) : PED cs X (.BoolOp op [a] pos) ma := by
  obtain ⟨ta, a1, a2⟩ := ha.ex
  exact ⟨ta, pe_one a1, a2⟩
theorem andV_ev {K : PySem.W.Frag} {ta tb : TE} (ha : EvE K cs ta ma) (hb : EvE K cs tb mb) : EvE K cs (tAndV ta tb) (mTV (mAnd (mB ma) (mB mb))) := by
  intro ap H0 B0 B σ env H p Q d p' k hm q
  obtain ⟨x, p1, e1, e2⟩ := bindM_some hm
  cases e2
  obtain ⟨y, p2, e3, e4⟩ := bindM_some e1
  obtain ⟨z, p3, e5, e6⟩ := bindM_some e3
  cases z <;> first | (cases e6; done) | skip
  cases e6
  refine ha ap H0 B0 B σ env H p _ _ p2 k e5 fun B1 H1 v n1 hp1 r1 => ?_
  simp only [Rep] at r1
  refine ⟨y, r1, ?_⟩
  cases y with
  | true =>
    rw [if_pos rfl] at e4 ⊢
    obtain ⟨z, p3, e5, e6⟩ := bindM_some e4
    cases z <;> first | (cases e6; done) | skip
    cases e6
    exact hb ap H0 B0 B1 σ env H1 p2 _ _ p' (k.nxt n1 hp1) e5 fun B2 H2 v n2 hp2 r2 => q B2 H2 v (n1.trans n2) hp2 r2
  | false =>
    rw [if_neg (by decide)] at e4 ⊢
    cases e4
    exact q B1 H1 _ n1 hp1 (by simp only [Rep])
theorem orV_ev {K : PySem.W.Frag} {ta tb : TE} (ha : EvE K cs ta ma) (hb : EvE K cs tb mb) : EvE K cs (tOrV ta tb) (mTV (mOr (mB ma) (mB mb))) := by
  intro ap H0 B0 B σ env H p Q d p' k hm q
  obtain ⟨x, p1, e1, e2⟩ := bindM_some hm
  cases e2
  obtain ⟨y, p2, e3, e4⟩ := bindM_some e1
  obtain ⟨z, p3, e5, e6⟩ := bindM_some e3
  cases z <;> first | (cases e6; done) | skip
  cases e6
  refine ha ap H0 B0 B σ env H p _ _ p2 k e5 fun B1 H1 v n1 hp1 r1 => ?_
  simp only [Rep] at r1
  refine ⟨y, r1, ?_⟩
  cases y with
  | true =>
    rw [if_pos rfl] at e4 ⊢
    cases e4
    exact q B1 H1 _ n1 hp1 (by simp only [Rep])
  | false =>
    rw [if_neg (by decide)] at e4 ⊢
    obtain ⟨z, p3, e5, e6⟩ := bindM_some e4
    cases z <;> first | (cases e6; done) | skip
    cases e6
    exact hb ap H0 B0 B1 σ env H1 p2 _ _ p' (k.nxt n1 hp1) e5 fun B2 H2 v n2 hp2 r2 => q B2 H2 v (n1.trans n2) hp2 r2
theorem p_and (ha : PED cs X a ma) (hb : PED cs X (.BoolOp .And (b :: es) pos) mb) : PED cs X (.BoolOp .And (a :: b :: es) pos) (mTV (mAnd (mB ma) (mB mb))) := by
  obtain ⟨ta, a1, a2⟩ := ha.ex
  obtain ⟨tb, b1, b2⟩ := hb.ex
  exact ⟨_, pe_and a1 b1, andV_ev a2 b2⟩
theorem p_or (ha : PED cs X a ma) (hb : PED cs X (.BoolOp .Or (b :: es) pos) mb) : PED cs X (.BoolOp .Or (a :: b :: es) pos) (mTV (mOr (mB ma) (mB mb))) := by
  obtain ⟨ta, a1, a2⟩ := ha.ex
  obtain ⟨tb, b1, b2⟩ := hb.ex
  exact ⟨_, pe_or a1 b1, orV_ev a2 b2⟩
theorem p_not (ha : PED cs X a ma) : PED cs X (.UnaryOp .Not a pos) (mTV (mNot (mB ma))) := by
  obtain ⟨ta, a1, a2⟩ := ha.ex
  refine ⟨_, pe_not a1, fun ap H0 B0 B σ env H p Q d p' k hm q => ?_⟩
  obtain ⟨x, p1, e1, e2⟩ := bindM_some hm
  cases e2
  obtain ⟨y, p2, e3, e4⟩ := bindM_some e1
  cases e4
  obtain ⟨z, p3, e5, e6⟩ := bindM_some e3
  cases z <;> first | (cases e6; done) | skip
  cases e6
  refine a2 ap H0 B0 B σ env H p _ _ p' k e5 fun B1 H1 v n1 hp1 r1 => ?_
  simp only [Rep] at r1
  exact ⟨y, r1, q B1 H1 _ n1 hp1 (by simp only [Rep])⟩
theorem if_ev {K : PySem.W.Frag} {t : TT} {ta tb : TE} {mc : Env' → Mo Bool} (hc : EvT K cs t mc) (ha : EvE K cs ta ma) (hb : EvE K cs tb mb) : EvE K cs (tIf t ta tb) (mIf mc ma mb) := by
  intro ap H0 B0 B σ env H p Q d p' k hm q
  obtain ⟨x, p1, e1, e2⟩ := bindM_some hm
  refine hc ap H0 B0 B σ env H p _ x p1 k e1 fun B1 H1 n1 hp1 => ?_
  have k1 := k.nxt n1 hp1
  cases x with
  | true =>
    rw [if_pos rfl] at e2 ⊢
    exact ha ap H0 B0 B1 σ env H1 p1 _ d p' k1 e2 fun B2 H2 v n2 hp2 r2 => q B2 H2 v (n1.trans n2) hp2 r2
  | false =>
    rw [if_neg (by decide)] at e2 ⊢
    exact hb ap H0 B0 B1 σ env H1 p1 _ d p' k1 e2 fun B2 H2 v n2 hp2 r2 => q B2 H2 v (n1.trans n2) hp2 r2
theorem p_if {mc : Env' → Mo Bool} (hc : PTD cs X c mc) (ha : PED cs X a ma) (hb : PED cs X b mb) : PED cs X (.IfExp c a b pos) (mIf mc ma mb) := by
  obtain ⟨tc, c1, c2⟩ := hc.ex
  obtain ⟨ta, a1, a2⟩ := ha.ex
  obtain ⟨tb, b1, b2⟩ := hb.ex
  exact ⟨_, pe_ifExp c1 a1 b1, if_ev c2 a2 b2⟩
/-! ### arguments, displays -/
theorem pa_nil : PAD cs X [] mNil := by
  refine ⟨tNil, L2.pa_nil, fun ap H0 B0 B σ env H p Q d p' k hm q => ?_⟩
  cases hm
  exact q B H [] (Nxt.refl k.bh) k.pot reps_nil
theorem pa_cons {mr : Env' → Mo (List D)} (ha : PED cs X e m) (hr : PAD cs X es mr) (hs : starEach (e :: es) X.env = (false, eval e X.env) :: starEach es X.env := by rfl) : PAD cs X (e :: es) (mCons m mr) := by
  obtain ⟨ta, a1, a2⟩ := ha.ex
  obtain ⟨tr, r1, r2⟩ := hr.ex
  refine ⟨_, L2.pa_cons a1 r1 hs, fun ap H0 B0 B σ env H p Q d p' k hm q => ?_⟩
  obtain ⟨x, p1, e1, e2⟩ := bindM_some hm
  obtain ⟨xs, p2, e3, e4⟩ := bindM_some e2
  cases e4
  refine a2 ap H0 B0 B σ env H p _ x p1 k e1 fun B1 H1 v n1 hp1 g1 => ?_
  have k1 := k.nxt n1 hp1
  exact r2 ap H0 B0 B1 σ env H1 p1 _ xs p' k1 e3 fun B2 H2 vs n2 hp2 g2 => q B2 H2 (v :: vs) (n1.trans n2) hp2 (reps_cons (g1.mono n2.bb) g2)
theorem sz100 {n : Nat} (h : n ≤ 100000) : n ≤ sizeLine := Nat.le_trans h (by rw [sizeLine_eq]; decide)
theorem p_tup {x1} {mr : Env' → Mo (List D)} (h : PAD cs X es mr) : PED cs X (.Tuple es x1 pos) (mTup mr) := by
  obtain ⟨ta, a1, a2⟩ := h.ex
  refine ⟨_, pe_tup a1, fun ap H0 B0 B σ env H p Q d p' k hm q => ?_⟩
  obtain ⟨x, p1, e1, e2⟩ := bindM_some hm
  split at e2
  · rename_i hl
    cases e2
    refine a2 ap H0 B0 B σ env H p _ x p' k e1 fun B1 H1 vs n1 hp1 g1 => ⟨sz100 (by rw [g1.length]; exact hl), fun t ht => ?_⟩
    have n2 : Nxt ap B1 H1 (upd B1 t (.tup vs)) (upd H1 t (.tup vs)) := Nxt.new n1.bh ht
    exact q _ _ _ (n1.trans n2) (hp1.new ht) (by simp only [Rep]; exact ⟨t, vs, rfl, SqT.of upd_same, g1.mono n2.bb⟩)
  · cases e2
theorem o_lst {mr : Env' → Mo (List D)} (h : PAD cs X es mr) : POD cs X (.List es pos) (mNew mr) := by
  obtain ⟨ta, a1, a2⟩ := h.ex
  refine ⟨_, pe_lst a1, fun ap H0 B0 B σ env H p Q d p' k hm q => ?_⟩
  obtain ⟨x, p1, e1, e2⟩ := bindM_some hm
  split at e2
  · rename_i hl
    cases e2
    refine a2 ap H0 B0 B σ env H p _ _ p' k e1 fun B1 H1 vs n1 hp1 g1 => ⟨sz100 (by rw [g1.length]; exact hl), fun t ht => ?_⟩
    have ht0 : H t = none := by
      cases z : H t with
      | none => rfl
      | some o => exact absurd ht (n1.nn t (by rw [z]; exact fun y => nomatch y))
    have n2 : Nxt ap B1 H1 B1 (upd H1 t (.lst vs)) := Nxt.newU n1.bh ht
    exact q _ _ t vs (n1.trans n2) (hp1.new ht) ht0 (Evl.fresh_back n1.bh ht) upd_same g1
  · cases e2
end
end DL
end

section
set_option Elab.async false
set_option linter.all false
set_option maxRecDepth 100000
set_option maxHeartbeats 4000000
/-! DL: statements, targets, loops. -/
namespace DL
open PySem PySem.Spec PyProof.Rows L2
open Evl (Ex)

theorem Ok.setv' {K : PySem.W.Frag} {cs : CT} {ap : Addr} {H0 B0 B H : Hp} {σ : L2.St} {env : Env'} {p : Pt} (k : Ok K cs ap H0 B0 B σ env H p) {i : Nat} {d : D} {v : V} (r : Rep K cs ap B d v) : Ok K cs ap H0 B0 B (σ.set i (some v)) (env.set i (.val d)) H p := by
  by_cases hi : i < env.length
  · exact k.setv hi r
  · have h1 : env.length ≤ i := by omega
    have h2 : σ.length ≤ i := by rw [k.len]; exact h1
    rw [List.set_eq_of_length_le h1, List.set_eq_of_length_le h2]; exact k

/-- how a statement ends -/
inductive Out where
  | nx | bk | ct | rt (d : D) | ro (ds : List D)
abbrev MS := Env' → Mo (Out × Env')

def KS (K : PySem.W.Frag) (cs : CT) (ap : Addr) (H0 B0 B : Hp) (o : Out) (env' : Env') (p' : Pt) (E : Ends) : Prop := match o with
  | .nx => ∀ B' σ' H', Ex B B' → Ok K cs ap H0 B0 B' σ' env' H' p' → E.nx σ' H'
  | .bk => ∀ B' σ' H', Ex B B' → Ok K cs ap H0 B0 B' σ' env' H' p' → E.bk σ' H'
  | .ct => ∀ B' σ' H', Ex B B' → Ok K cs ap H0 B0 B' σ' env' H' p' → E.ct σ' H'
  | .rt d => ∀ B' H' v, Nxt ap B0 H0 B' H' → PotAt ap H' p' → Rep K cs ap B' d v → E.rt v H'
  | .ro ds => ∀ B' H' a xs, Nxt ap B0 H0 B' H' → PotAt ap H' p' → H0 a = none → B' a = none → H' a = some (.lst xs) → Reps K cs ap B' ds xs → E.rt (.ref a) H'
theorem KS.mono {K : PySem.W.Frag} {cs : CT} {ap : Addr} {H0 B0 B B1 : Hp} {o : Out} {env' : Env'} {p' : Pt} {E : Ends} (k : KS K cs ap H0 B0 B o env' p' E) (e : Ex B B1) : KS K cs ap H0 B0 B1 o env' p' E := by
  cases o with
  | nx => exact fun B' σ' H' z => k B' σ' H' (e.trans z)
  | bk => exact fun B' σ' H' z => k B' σ' H' (e.trans z)
  | ct => exact fun B' σ' H' z => k B' σ' H' (e.trans z)
  | rt d => exact k
  | ro d => exact k
def EvS (K : PySem.W.Frag) (cs : CT) (ts : TS) (m : MS) : Prop := ∀ ap H0 B0 B σ env H p (E : Ends) o env' p', Ok K cs ap H0 B0 B σ env H p → m env p = some ((o, env'), p') → KS K cs ap H0 B0 B o env' p' E → ts E σ H
structure PSD (cs : CT) (X : Cx) (st : Stmt) (m : MS) : Prop where
  ex : ∃ ts, PS X st ts ∧ EvS X.K cs ts m
structure PSsD (cs : CT) (X : Cx) (sts : List Stmt) (m : MS) : Prop where
  ex : ∃ ts, PSs X sts ts ∧ EvS X.K cs ts m

/-! ### targets -/
abbrev MG := D → Env' → Option Env'
abbrev MGs := List D → Env' → Option Env'
/-- the slots agree but at sl -/
def Agr (sl : List Nat) (σ σ' : L2.St) : Prop := σ'.length = σ.length ∧ ∀ j, j ∉ sl → σ'[j]? = σ[j]?
theorem Agr.refl {sl : List Nat} {σ : L2.St} : Agr sl σ σ := ⟨rfl, fun _ _ => rfl⟩
theorem Agr.trans {s1 s2 : List Nat} {σ σ1 σ2 : L2.St} (a : Agr s1 σ σ1) (b : Agr s2 σ1 σ2) : Agr (s1 ++ s2) σ σ2 :=
  ⟨b.1.trans a.1, fun j hj => (b.2 j fun z => hj (List.mem_append_right _ z)).trans (a.2 j fun z => hj (List.mem_append_left _ z))⟩
theorem Agr.set {i : Nat} {σ : L2.St} {v : Option V} : Agr [i] σ (σ.set i v) := ⟨List.length_set, fun j hj => List.getElem?_set_ne (fun z => hj (by rw [z]; exact List.mem_singleton.mpr rfl))⟩
def EvG (K : PySem.W.Frag) (cs : CT) (g : TG) (sl : List Nat) (m : MG) : Prop := ∀ ap H0 B0 B σ env H p (Q : L2.St → Hp → Prop) d v env', Ok K cs ap H0 B0 B σ env H p → Rep K cs ap B d v → m d env = some env' → (∀ σ', Ok K cs ap H0 B0 B σ' env' H p → Agr sl σ σ' → Q σ' H) → g v σ H Q
def EvGs (K : PySem.W.Frag) (cs : CT) (g : TGs) (sl : List Nat) (m : MGs) : Prop := ∀ ap H0 B0 B σ env H p (Q : L2.St → Hp → Prop) ds vs env', Ok K cs ap H0 B0 B σ env H p → Reps K cs ap B ds vs → m ds env = some env' → (∀ σ', Ok K cs ap H0 B0 B σ' env' H p → Agr sl σ σ' → Q σ' H) → g vs σ H Q
structure PGD (cs : CT) (X : Cx) (tg : Expr) (sl : List Nat) (m : MG) : Prop where
  ex : ∃ g, PG X tg g ∧ EvG X.K cs g sl m
structure PGsD (cs : CT) (X : Cx) (tgs : List Expr) (sl : List Nat) (m : MGs) : Prop where
  ex : ∃ g, PGs X tgs g ∧ EvGs X.K cs g sl m
def tgN (i : Nat) : MG := fun d env => some (env.set i (.val d))
def tgNil : MGs := fun ds env => match ds with
  | [] => some env
  | _ => none
def tgCons (a : MG) (b : MGs) : MGs := fun ds env => match ds with
  | d :: r => match a d env with
    | some env1 => b r env1
    | none => none
  | [] => none
def tgTup (n : Nat) (b : MGs) : MG := fun d env => match d with
  | .tup ds => if ds.length = n then b ds env else none
  | _ => none

/-! ### denotations of statements -/
def mNx : MS := fun env => retM (.nx, env)
def mBk : MS := fun env => retM (.bk, env)
def mCt : MS := fun env => retM (.ct, env)
def mNever : MS := fun _ => failM
def mSeq (a b : MS) : MS := fun env => bindM (a env) fun r => match r.1 with
  | .nx => b r.2
  | o => retM (o, r.2)
def mSet (i : Nat) (m : Env' → Mo D) : MS := fun env => bindM (m env) fun d => retM (.nx, env.set i (.val d))
def mSetO (i : Nat) (m : Env' → Mo (List D)) : MS := fun env => bindM (m env) fun ds => if i < env.length then retM (.nx, env.set i (.own ds)) else failM
def mAsg (g : MG) (m : Env' → Mo D) : MS := fun env => bindM (m env) fun d => match g d env with
  | some env' => retM (.nx, env')
  | none => failM
def mRet (m : Env' → Mo D) : MS := fun env => bindM (m env) fun d => retM (.rt d, env)
/-- return of a new list that nothing else knows -/
def mRetO (m : Env' → Mo (List D)) : MS := fun env => bindM (m env) fun ds => retM (.ro ds, env)
/-- return of an own list -/
def mRetX (i : Nat) : MS := fun env => match env[i]? with
  | some (.own ds) => retM (.ro ds, env)
  | _ => failM
def mRetN : MS := fun env => retM (.rt .non, env)
def mDrop (m : Env' → Mo D) : MS := fun env => bindM (m env) fun _ => retM (.nx, env)
def mIfS (c : Env' → Mo Bool) (a b : MS) : MS := fun env => bindM (c env) fun x => if x = true then a env else b env
def mFreeze (i : Nat) (m : MS) : MS := fun env => match env[i]? with
  | some (.own ds) => m (env.set i (.val (.lst ds)))
  | _ => failM
def mForget (i : Nat) (m : MS) : MS := fun env => m (env.set i .un)
def loopM (body : D → MS) : List D → MS
  | [] => fun env => retM (.nx, env)
  | d :: ds => fun env => bindM (body d env) fun r => match r.1 with
    | .nx => loopM body ds r.2
    | .ct => loopM body ds r.2
    | .bk => retM (.nx, r.2)
    | .rt v => retM (.rt v, r.2)
    | .ro v => retM (.ro v, r.2)
def mTg (g : MG) (body : MS) : D → MS := fun d env => match g d env with
  | some env' => body env'
  | none => failM
def mFor (src : Env' → Mo (List D)) (g : MG) (body : MS) : MS := fun env => bindM (src env) fun ds => loopM (mTg g body) ds env
def whileM (c : Env' → Mo Bool) (body : MS) : Nat → MS
  | 0 => fun _ => failM
  | n + 1 => fun env => bindM (c env) fun b => if b = true then bindM (body env) fun r => match r.1 with
      | .nx => whileM c body n r.2
      | .ct => whileM c body n r.2
      | .bk => retM (.nx, r.2)
      | .rt v => retM (.rt v, r.2)
      | .ro v => retM (.ro v, r.2)
    else retM (.nx, env)
/-- more turns than any while of ours takes -/
def fuelW : Nat := 2000000
def mWhile (c : Env' → Mo Bool) (body : MS) : MS := fun env => whileM c body fuelW env

section
variable {cs : CT} {X : Cx} {e : Expr} {st : Stmt} {sts : List Stmt} {m : Env' → Mo D} {ms mt : MS} {pos : Pos}
theorem ss_nil : PSsD cs X [] mNx := by
  refine ⟨_, pss_nil, fun ap H0 B0 B σ env H p E o env' p' k hm q => ?_⟩
  cases hm
  exact q B σ H (Ex.refl _) k
theorem seq_ev {K : PySem.W.Frag} {t u : TS} (h1 : EvS K cs t ms) (h2 : EvS K cs u mt) : EvS K cs (tSeq t u) (mSeq ms mt) := by
  intro ap H0 B0 B σ env H p E o env' p' k hm q
  obtain ⟨⟨o1, env1⟩, p1, e1, e2⟩ := bindM_some hm
  refine h1 ap H0 B0 B σ env H p _ o1 env1 p1 k e1 ?_
  cases o1 with
  | nx => exact fun B' σ' H' ex k' => h2 ap H0 B0 B' σ' env1 H' p1 E o env' p' k' e2 (q.mono ex)
  | bk => cases e2; exact q
  | ct => cases e2; exact q
  | rt d => cases e2; exact q
  | ro d => cases e2; exact q
theorem ss_cons (h1 : PSD cs X st ms) (h2 : PSsD cs X sts mt) : PSsD cs X (st :: sts) (mSeq ms mt) := by
  obtain ⟨t, a1, a2⟩ := h1.ex
  obtain ⟨u, b1, b2⟩ := h2.ex
  exact ⟨_, pss_cons a1 b1, seq_ev a2 b2⟩
theorem ss_one (h1 : PSD cs X st ms) : PSsD cs X [st] ms := by
  obtain ⟨t, a1, a2⟩ := h1.ex
  exact ⟨_, pss_one a1, a2⟩
theorem ss_freeze (i : Nat) (h : PSsD cs X sts ms) : PSsD cs X sts (mFreeze i ms) := by
  obtain ⟨t, a1, a2⟩ := h.ex
  refine ⟨_, a1, fun ap H0 B0 B σ env H p E o env' p' k hm q => ?_⟩
  unfold mFreeze at hm
  rcases g : env[i]? with _ | _ | _ | ds | _
  · rw [g] at hm; cases hm
  · rw [g] at hm; cases hm
  · rw [g] at hm; cases hm
  · rw [g] at hm
    obtain ⟨B', ex, k'⟩ := k.freeze g
    exact a2 ap H0 B0 B' σ _ H p E o env' p' k' hm (q.mono ex)
  · rw [g] at hm; cases hm
theorem ss_forget (i : Nat) (h : PSsD cs X sts ms) : PSsD cs X sts (mForget i ms) := by
  obtain ⟨t, a1, a2⟩ := h.ex
  exact ⟨_, a1, fun ap H0 B0 B σ env H p E o env' p' k hm q => a2 ap H0 B0 B σ _ H p E o env' p' k.drop hm q⟩
theorem s_pass : PSD cs X (.Pass pos) mNx := ⟨_, ps_pass, fun ap H0 B0 B σ env H p E o env' p' k hm q => by cases hm; exact q B σ H (Ex.refl _) k⟩
theorem s_break : PSD cs X (.Break pos) mBk := ⟨_, ps_break, fun ap H0 B0 B σ env H p E o env' p' k hm q => by cases hm; exact q B σ H (Ex.refl _) k⟩
theorem s_continue : PSD cs X (.Continue pos) mCt := ⟨_, ps_continue, fun ap H0 B0 B σ env H p E o env' p' k hm q => by cases hm; exact q B σ H (Ex.refl _) k⟩
theorem s_never : PSD cs X st mNever := ⟨_, ps_never, fun ap H0 B0 B σ env H p E o env' p' k hm q => by cases hm⟩
theorem s_expr (h : PED cs X e m) (hs : swapsWith e none pos.line X.env = pure false := by rfl) : PSD cs X (.Expr e pos) (mDrop m) := by
  obtain ⟨t, a1, a2⟩ := h.ex
  refine ⟨_, ps_expr a1 hs, fun ap H0 B0 B σ env H p E o env' p' k hm q => ?_⟩
  obtain ⟨d, p1, e1, e2⟩ := bindM_some hm
  cases e2
  exact a2 ap H0 B0 B σ env H p _ d p' k e1 fun B' H' v n hp r => q B' σ H' n.bb (k.nxt n hp)
theorem s_ret (h : PED cs X e m) : PSD cs X (.Return (some e) pos) (mRet m) := by
  obtain ⟨t, a1, a2⟩ := h.ex
  refine ⟨_, ps_ret a1, fun ap H0 B0 B σ env H p E o env' p' k hm q => ?_⟩
  obtain ⟨d, p1, e1, e2⟩ := bindM_some hm
  cases e2
  exact a2 ap H0 B0 B σ env H p _ d p' k e1 fun B' H' v n hp r => q B' H' v (k.st.trans n) hp r
theorem s_retO {m : Env' → Mo (List D)} (h : POD cs X e m) : PSD cs X (.Return (some e) pos) (mRetO m) := by
  obtain ⟨t, a1, a2⟩ := h.ex
  refine ⟨_, ps_ret a1, fun ap H0 B0 B σ env H p E o env' p' k hm q => ?_⟩
  obtain ⟨d, p1, e1, e2⟩ := bindM_some hm
  cases e2
  refine a2 ap H0 B0 B σ env H p _ d p' k e1 fun B' H' a xs n hp hn hb hh r => q B' H' a xs (k.st.trans n) hp ?_ hb hh r
  cases z : H0 a with
  | none => rfl
  | some o => exact absurd hn (k.st.nn a (by rw [z]; exact fun y => nomatch y))
theorem s_retX (i : Nat) {x : Str} {p1 : Pos} (hN : X.N[i]? = some x := by rfl) (hv : Vis X.env.scope x := by first | exact Or.inl rfl | exact Or.inr (Or.inl rfl) | exact Or.inr (Or.inr rfl)) (hd : (x == ("__debug__" : Str)) = false := by decide)
    (hcd : (x == ("__classdict__" : Str)) = false := by decide) : PSD cs X (.Return (some (.Name x p1)) pos) (mRetX i) := by
  refine ⟨_, ps_ret (pe_var hN hv hd hcd), fun ap H0 B0 B σ env H p E o env' p' k hm q => ?_⟩
  unfold mRetX at hm
  rcases g : env[i]? with _ | _ | _ | ds | _
  · rw [g] at hm; cases hm
  · rw [g] at hm; cases hm
  · rw [g] at hm; cases hm
  · rw [g] at hm
    cases hm
    obtain ⟨a, xs, g1, g2, g3, g4⟩ := k.sl i _ g
    exact ⟨.ref a, g1, q B H a xs k.st k.pot (k.ownNew i ds a g g1) g2 g3 g4⟩
  · rw [g] at hm; cases hm
theorem s_retN : PSD cs X (.Return none pos) mRetN := ⟨_, ps_retN, fun ap H0 B0 B σ env H p E o env' p' k hm q => by cases hm; exact q B H .non k.st k.pot (by simp only [Rep])⟩
theorem s_if {c : Expr} {a b : List Stmt} {mc : Env' → Mo Bool} {ma mb : MS} (hc : PTD cs X c mc) (ha : PSsD cs X a ma) (hb : PSsD cs X b mb) : PSD cs X (.If c a b pos) (mIfS mc ma mb) := by
  obtain ⟨tc, c1, c2⟩ := hc.ex
  obtain ⟨ta, a1, a2⟩ := ha.ex
  obtain ⟨tb, b1, b2⟩ := hb.ex
  refine ⟨_, ps_if c1 a1 b1, fun ap H0 B0 B σ env H p E o env' p' k hm q => ?_⟩
  obtain ⟨x, p1, e1, e2⟩ := bindM_some hm
  refine c2 ap H0 B0 B σ env H p _ x p1 k e1 fun B1 H1 n1 hp1 => ?_
  cases x with
  | true =>
    rw [if_pos rfl] at e2 ⊢
    exact a2 ap H0 B0 B1 σ env H1 p1 E o env' p' (k.nxt n1 hp1) e2 (q.mono n1.bb)
  | false =>
    rw [if_neg (by decide)] at e2 ⊢
    exact b2 ap H0 B0 B1 σ env H1 p1 E o env' p' (k.nxt n1 hp1) e2 (q.mono n1.bb)
/-- name = datum -/
theorem set_ev {K : PySem.W.Frag} {te : TE} {i : Nat} (h : EvE K cs te m) : EvS K cs (tAsg te (gName i)) (mSet i m) := by
  intro ap H0 B0 B σ env H p E o env' p' k hm q
  obtain ⟨d, p1, e1, e2⟩ := bindM_some hm
  cases e2
  exact h ap H0 B0 B σ env H p _ d p' k e1 fun B' H' v n hp r => q B' _ H' n.bb ((k.nxt n hp).setv' r)
theorem s_set (i : Nat) {x : Str} {pos' : Pos} (hN : X.N.Nodup) (h : PED cs X e m) (hi : X.N[i]? = some x := by rfl) (hx : Loc X.env.scope x := by first | exact Or.inl rfl | exact Or.inr rfl) (hs : swapsWith e (some (.Name x pos')) pos.line X.env = pure false := by rfl)
    (hf : X.fn x = true ∨ X.env.scope.names.lookup x = some .local := by first | exact .inl rfl | exact .inr rfl) : PSD cs X (.Assign [.Name x pos'] e pos) (mSet i m) := by
  obtain ⟨t, a1, a2⟩ := h.ex
  exact ⟨_, ps_set hN hi hx a1 hs hf, set_ev a2⟩
/-- name = a new list, which stays the def's own -/
theorem setO_ev {K : PySem.W.Frag} {te : TE} {i : Nat} {m : Env' → Mo (List D)} (h : EvO K cs te m) : EvS K cs (tAsg te (gName i)) (mSetO i m) := by
  intro ap H0 B0 B σ env H p E o env' p' k hm q
  obtain ⟨ds, p1, e1, e2⟩ := bindM_some hm
  split at e2
  · rename_i hi
    cases e2
    refine h ap H0 B0 B σ env H p _ ds p' k e1 fun B' H' a xs n hp hn hb hh r => ?_
    have h0 : H0 a = none := by
      cases z : H0 a with
      | none => rfl
      | some o => exact absurd hn (k.st.nn a (by rw [z]; exact fun y => nomatch y))
    refine q B' _ H' n.bb ((k.nxt n hp).seto hi hb hh r h0 fun j es hj hj' g => ?_)
    obtain ⟨b, ys, g1, g2, g3, g4⟩ := k.sl j _ hj'
    rw [g] at g1
    cases g1
    rw [hn] at g3
    cases g3
  · cases e2
theorem s_setO (i : Nat) {x : Str} {pos' : Pos} {m : Env' → Mo (List D)} (hN : X.N.Nodup) (h : POD cs X e m) (hi : X.N[i]? = some x := by rfl) (hx : Loc X.env.scope x := by first | exact Or.inl rfl | exact Or.inr rfl) (hs : swapsWith e (some (.Name x pos')) pos.line X.env = pure false := by rfl)
    (hf : X.fn x = true ∨ X.env.scope.names.lookup x = some .local := by first | exact .inl rfl | exact .inr rfl) : PSD cs X (.Assign [.Name x pos'] e pos) (mSetO i m) := by
  obtain ⟨t, a1, a2⟩ := h.ex
  exact ⟨_, ps_set hN hi hx a1 hs hf, setO_ev a2⟩
/-! ### targets -/
theorem g_name (i : Nat) {x : Str} (hN : X.N.Nodup) (hi : X.N[i]? = some x := by rfl) (hx : Loc X.env.scope x := by first | exact Or.inl rfl | exact Or.inr rfl)
    (hf : X.fn x = true ∨ X.env.scope.names.lookup x = some .local := by first | exact .inl rfl | exact .inr rfl) : PGD cs X (.Name x pos) [i] (tgN i) :=
  ⟨_, pg_name hN hi hx hf, fun ap H0 B0 B σ env H p Q d v env' k r hm q => by cases hm; exact q _ (k.setv' r) Agr.set⟩
theorem gs_nil : PGsD cs X [] [] tgNil := by
  refine ⟨_, pgs_nil, fun ap H0 B0 B σ env H p Q ds vs env' k r hm q => ?_⟩
  cases ds with
  | nil =>
    simp only [Reps] at r
    cases hm
    exact ⟨r, q σ k Agr.refl⟩
  | cons d ds => cases hm
theorem gs_cons {tg : Expr} {tgs : List Expr} {a : MG} {b : MGs} {s1 s2 : List Nat} (h1 : PGD cs X tg s1 a) (h2 : PGsD cs X tgs s2 b) (hs : (assignEach (tg :: tgs) X.env).map (·.2) = assign tg X.env :: (assignEach tgs X.env).map (·.2) := by rfl) : PGsD cs X (tg :: tgs) (s1 ++ s2) (tgCons a b) := by
  obtain ⟨t, a1, a2⟩ := h1.ex
  obtain ⟨u, b1, b2⟩ := h2.ex
  refine ⟨_, pgs_cons a1 b1 hs, fun ap H0 B0 B σ env H p Q ds vs env' k r hm q => ?_⟩
  cases ds with
  | nil => cases hm
  | cons d ds =>
    simp only [Reps] at r
    obtain ⟨x, xs, rfl, r1, r2⟩ := r
    unfold tgCons at hm
    dsimp only at hm
    split at hm
    · rename_i env1 he
      exact ⟨x, xs, rfl, a2 ap H0 B0 B σ env H p _ d x env1 k r1 he fun σ' k' g1 => b2 ap H0 B0 B σ' env1 H p _ ds xs env' k' r2 hm fun σ2 k2 g2 => q σ2 k2 (g1.trans g2)⟩
    · cases hm
theorem tup_ev {K : PySem.W.Frag} {n : Nat} {g : TGs} {b : MGs} {sl : List Nat} (h : EvGs K cs g sl b) : EvG K cs (gTup K n g) sl (tgTup n b) := by
  intro ap H0 B0 B σ env H p Q d v env' k r hm q
  unfold tgTup at hm
  split at hm
  · split at hm
    · rename_i ds hl
      simp only [Rep] at r
      obtain ⟨a, xs, rfl, h1, h2⟩ := r
      exact ⟨a, xs, rfl, Evl.ex_t k.bh h1, by rw [h2.length]; exact hl, h ap H0 B0 B σ env H p Q ds xs env' k h2 hm q⟩
    · cases hm
  · cases hm
theorem g_tup {es : List Expr} {kk n : Nat} {b : MGs} {sl : List Nat} (hc : X.calm = true) (h : PGsD cs X es sl b) (hn : (assignEach es X.env).length = n := by rfl) (hst : (assignEach es X.env).findIdx? (·.1) = none := by rfl) : PGD cs X (.Tuple es kk pos) sl (tgTup n b) := by
  obtain ⟨t, a1, a2⟩ := h.ex
  exact ⟨_, pg_tup hc a1 hn hst, tup_ev a2⟩
theorem asg_ev {K : PySem.W.Frag} {te : TE} {g : TG} {mg : MG} {sl : List Nat} (h : EvE K cs te m) (hg : EvG K cs g sl mg) : EvS K cs (tAsg te g) (mAsg mg m) := by
  intro ap H0 B0 B σ env H p E o env' p' k hm q
  obtain ⟨d, p1, e1, e2⟩ := bindM_some hm
  rcases he : mg d env with _ | env1
  · rw [he] at e2; cases e2
  · rw [he] at e2
    cases e2
    exact h ap H0 B0 B σ env H p _ d p' k e1 fun B' H' v n hp r => hg ap H0 B0 B' σ env H' p' _ d v env' (k.nxt n hp) r he fun σ' k' _ => q B' σ' H' n.bb k'
/-- a, b = a tuple -/
theorem s_asg {tg : Expr} {mg : MG} {sl : List Nat} (h : PED cs X e m) (hg : PGD cs X tg sl mg) (hs : swapsWithSole [tg] e pos.line X.env = pure false := by rfl) (hw : swappedStores [tg] e X.env = pure none := by rfl)
    (h1 : (assignEach [tg] X.env).map (·.2) = [assign tg X.env] := by rfl) : PSD cs X (.Assign [tg] e pos) (mAsg mg m) := by
  obtain ⟨t, a1, a2⟩ := h.ex
  obtain ⟨g, g1, g2⟩ := hg.ex
  exact ⟨_, ps_asg a1 g1 hs hw h1, asg_ev a2 g2⟩
/-- a, b = x, y: plain local names -/
def mPar (i j : Nat) (m : Env' → Mo (List D)) : MS := fun env => bindM (m env) fun ds => match ds with
  | [d, e] => retM (.nx, (env.set i (.val d)).set j (.val e))
  | _ => failM
theorem s_par (i j : Nat) {x y : Str} {a b : Expr} {px py pt : Pos} {kt k2 pt2} {m : Env' → Mo (List D)} (hc : X.calm = true) (hN : X.N.Nodup) (ha : PAD cs X [a, b] m) (hw : swappedStores [.Tuple [.Name x px, .Name y py] kt pt] (.Tuple [a, b] k2 pt2) X.env = pure (some [x, y]))
    (hi : X.N[i]? = some x := by rfl) (hj : X.N[j]? = some y := by rfl) (hij : i ≠ j := by decide) (hx : X.env.scope.names.lookup x = some .local := by rfl) (hy : X.env.scope.names.lookup y = some .local := by rfl)
    (hs : swapsWithSole [.Tuple [.Name x px, .Name y py] kt pt] (.Tuple [a, b] k2 pt2) pos.line X.env = pure false := by rfl) : PSD cs X (.Assign [.Tuple [.Name x px, .Name y py] kt pt] (.Tuple [a, b] k2 pt2) pos) (mPar i j m) := by
  obtain ⟨t, a1, a2⟩ := ha.ex
  refine ⟨_, ps_par hc hN hi hj hij hx hy a1 hw hs, fun ap H0 B0 B σ env H p E o env' p' k hm q => ?_⟩
  obtain ⟨ds, p1, e1, e2⟩ := bindM_some hm
  split at e2
  · rename_i d e
    cases e2
    refine a2 ap H0 B0 B σ env H p _ _ p' k e1 fun B' H' vs n hp r => ?_
    simp only [Reps] at r
    obtain ⟨v, _, rfl, r1, w, _, rfl, r2, rfl⟩ := r
    exact ⟨v, w, rfl, q B' _ H' n.bb (((k.nxt n hp).setv' r1).setv' r2)⟩
  · cases e2
/-! ### loops -/
/-- an iterator walks these data -/
def Wk (K : PySem.W.Frag) (cs : CT) (ap : Addr) (J : It) (ds : List D) (B H : Hp) : Prop := ∀ i, (∀ d, ds[i]? = some d → J.go i H ∧ ∀ x H', J.yld i H x H' → ∃ B', Nxt ap B H B' H' ∧ (H ap ≠ none → H' ap = H ap) ∧ Rep K cs ap B' d x) ∧ (ds.length ≤ i → J.stop i H)
def EvI (K : PySem.W.Frag) (cs : CT) (wi : TI) (m : Env' → Mo (List D)) : Prop := ∀ ap H0 B0 B σ env H p (R : It → Hp → Prop) ds p', Ok K cs ap H0 B0 B σ env H p → m env p = some (ds, p') →
  (∀ B' H' J, Nxt ap B H B' H' → PotAt ap H' p' → (∀ B2 H2, Ex B' B2 → Ex B2 H2 → Wk K cs ap J ds B2 H2) → R J H') → wi σ H R
structure PID (cs : CT) (X : Cx) (tg iter : Expr) (m : Env' → Mo (List D)) : Prop where
  ex : ∃ wi, PI X tg iter wi ∧ EvI X.K cs wi m
/-- the same where what stands stays (a comprehension) -/
def EvJ (K : PySem.W.Frag) (cs : CT) (wi : TI) (m : Env' → Mo (List D)) : Prop := ∀ ap H0 B0 B σ env H p (R : It → Hp → Prop) ds p', Ok K cs ap H0 B0 B σ env H p → m env p = some (ds, p') →
  (∀ B' H' J, Nxt ap B H B' H' → PotAt ap H' p' → (∀ B2 H2, Nxt ap B' H' B2 H2 → Wk K cs ap J ds B2 H2) → R J H') → wi σ H R
structure PJD (cs : CT) (X : Cx) (tg iter : Expr) (m : Env' → Mo (List D)) : Prop where
  ex : ∃ wi, PI X tg iter wi ∧ EvJ X.K cs wi m
theorem PID.j {tg iter : Expr} {m : Env' → Mo (List D)} (h : PID cs X tg iter m) : PJD cs X tg iter m := by
  obtain ⟨wi, h1, h2⟩ := h.ex
  exact ⟨wi, h1, fun ap H0 B0 B σ env H p R ds p' k hm q => h2 ap H0 B0 B σ env H p R ds p' k hm fun B' H' J n hp wk => q B' H' J n hp fun B2 H2 n2 => wk B2 H2 n2.bb n2.bh⟩
theorem for_ev {K : PySem.W.Frag} {wi : TI} {g : TG} {tb : TS} {msrc : Env' → Mo (List D)} {mg : MG} {sl : List Nat} (hi : EvI K cs wi msrc) (hg : EvG K cs g sl mg) (hb : EvS K cs tb ms) : EvS K cs (tFor wi g tb) (mFor msrc mg ms) := by
  intro ap H0 B0 B σ env H p E o env' p' k hm q
  obtain ⟨ds, p1, e1, e2⟩ := bindM_some hm
  refine hi ap H0 B0 B σ env H p _ ds p1 k e1 fun B1 H1 J n1 hp1 wk => ?_
  have k1 := k.nxt n1 hp1
  refine ⟨fun i m σ' H' => m = ds.length - i ∧ ∃ B2 env2 p2, Ex B1 B2 ∧ Ok K cs ap H0 B0 B2 σ' env2 H' p2 ∧ loopM (mTg mg ms) (ds.drop i) env2 p2 = some ((o, env'), p'),
    ⟨_, rfl, B1, env, p1, Ex.refl _, k1, e2⟩, ?_⟩
  rintro i mm σ' H' ⟨rfl, B2, env2, p2, ex2, k2, he⟩
  have wki := wk B2 H' ex2 k2.bh i
  by_cases hlt : i < ds.length
  · right
    obtain ⟨d, hd⟩ : ∃ d, ds[i]? = some d := ⟨ds[i], List.getElem?_eq_getElem hlt⟩
    obtain ⟨hgo, hy⟩ := wki.1 d hd
    refine ⟨hgo, ?_⟩
    have hdr : ds.drop i = d :: ds.drop (i + 1) := by
      rw [List.drop_eq_getElem_cons hlt]
      rw [List.getElem?_eq_getElem hlt] at hd
      rw [Option.some.inj hd]
    rw [hdr] at he
    obtain ⟨⟨o1, env3⟩, p3, e3, e4⟩ := bindM_some (m := mTg mg ms d env2) he
    refine ⟨fun σ3 H3 => ∃ B3, Ex B1 B3 ∧ Ok K cs ap H0 B0 B3 σ3 env3 H3 p3 ∧ loopM (mTg mg ms) (ds.drop (i + 1)) env3 p3 = some ((o, env'), p'),
      fun σ3 H3 ⟨B3, ex3, k3, h3⟩ => ⟨ds.length - (i + 1), by omega, rfl, B3, env3, p3, ex3, k3, h3⟩, fun x H3 hyl => ?_⟩
    obtain ⟨B3, n3, hap, r3⟩ := hy x H3 hyl
    have hp3 : PotAt ap H3 p2 := by
      unfold PotAt
      rw [hap (by rw [k2.pot]; exact fun z => nomatch z)]
      exact k2.pot
    have k3 := k2.nxt n3 hp3
    unfold mTg at e3
    rcases he4 : mg d env2 with _ | env4
    · rw [he4] at e3; cases e3
    · rw [he4] at e3
      refine hg ap H0 B0 B3 σ' env2 H3 p2 _ d x env4 k3 r3 he4 fun σ4 k4 _ => ?_
      refine hb ap H0 B0 B3 σ4 env4 H3 p2 _ o1 env3 p3 k4 e3 ?_
      have ex3 : Ex B1 B3 := ex2.trans n3.bb
      cases o1 with
      | nx => exact fun B5 σ5 H5 ex5 k5 => ⟨B5, ex3.trans ex5, k5, e4⟩
      | ct => exact fun B5 σ5 H5 ex5 k5 => ⟨B5, ex3.trans ex5, k5, e4⟩
      | bk =>
        cases e4
        exact fun B5 σ5 H5 ex5 k5 => q B5 σ5 H5 ((n1.bb.trans ex3).trans ex5) k5
      | rt v =>
        cases e4
        exact q
      | ro v =>
        cases e4
        exact q
  · left
    refine ⟨wki.2 (by omega), ?_⟩
    rw [List.drop_eq_nil_of_le (by omega)] at he
    cases he
    exact q B2 σ' H' (n1.bb.trans ex2) k2
theorem s_for {tg iter : Expr} {body : List Stmt} {msrc : Env' → Mo (List D)} {mg : MG} {sl : List Nat} (hp : PassesOwn (model X.prog X.w) X.A X.env X.xe) (hc : X.calm = true) (hi : PID cs X tg iter msrc) (hg : PGD cs X tg sl mg) (hb : PSsD cs X body ms)
    (hs : ∀ x, foldedSetIterable iter X.env x = pure x := by intro _; rfl) : PSD cs X (.For tg iter body [] pos) (mFor msrc mg ms) := by
  obtain ⟨t, a1, a2⟩ := hi.ex
  obtain ⟨g, g1, g2⟩ := hg.ex
  obtain ⟨b, b1, b2⟩ := hb.ex
  exact ⟨_, ps_for hp hc a1 g1 b1 hs, for_ev a2 g2 b2⟩
theorem while_ev {K : PySem.W.Frag} {tc : TT} {tb : TS} {mc : Env' → Mo Bool} (hc : EvT K cs tc mc) (hb : EvS K cs tb ms) : EvS K cs (tWhile tc tb) (mWhile mc ms) := by
  intro ap H0 B0 B σ env H p E o env' p' k hm q
  refine ⟨fun m σ' H' => ∃ B2 env2 p2, Ex B B2 ∧ Ok K cs ap H0 B0 B2 σ' env2 H' p2 ∧ whileM mc ms m env2 p2 = some ((o, env'), p'), ⟨fuelW, B, env, p, Ex.refl _, k, hm⟩, ?_⟩
  rintro m σ' H' ⟨B2, env2, p2, ex2, k2, he⟩
  cases m with
  | zero => cases he
  | succ m =>
    obtain ⟨x, p3, e3, e4⟩ := bindM_some (m := mc env2) he
    refine hc ap H0 B0 B2 σ' env2 H' p2 _ x p3 k2 e3 fun B3 H3 n3 hp3 => ?_
    have k3 := k2.nxt n3 hp3
    cases x with
    | true =>
      rw [if_pos rfl] at e4 ⊢
      obtain ⟨⟨o1, env4⟩, p4, e5, e6⟩ := bindM_some (m := ms env2) e4
      refine ⟨fun σ5 H5 => ∃ B5, Ex B B5 ∧ Ok K cs ap H0 B0 B5 σ5 env4 H5 p4 ∧ whileM mc ms m env4 p4 = some ((o, env'), p'),
        fun σ5 H5 ⟨B5, ex5, k5, h5⟩ => ⟨m, by omega, B5, env4, p4, ex5, k5, h5⟩, ?_⟩
      refine hb ap H0 B0 B3 σ' env2 H3 p3 _ o1 env4 p4 k3 e5 ?_
      have ex3 : Ex B B3 := ex2.trans n3.bb
      cases o1 with
      | nx => exact fun B5 σ5 H5 ex5 k5 => ⟨B5, ex3.trans ex5, k5, e6⟩
      | ct => exact fun B5 σ5 H5 ex5 k5 => ⟨B5, ex3.trans ex5, k5, e6⟩
      | bk =>
        cases e6
        exact fun B5 σ5 H5 ex5 k5 => q B5 σ5 H5 (ex3.trans ex5) k5
      | rt v =>
        cases e6
        exact q
      | ro v =>
        cases e6
        exact q
    | false =>
      rw [if_neg (by decide)] at e4 ⊢
      cases e4
      exact q B3 σ' H3 (ex2.trans n3.bb) k3
theorem s_while {c : Expr} {body : List Stmt} {mc : Env' → Mo Bool} (hp : PassesOwn (model X.prog X.w) X.A X.env X.xe) (hc : PTD cs X c mc) (hb : PSsD cs X body ms) : PSD cs X (.While c body [] pos) (mWhile mc ms) := by
  obtain ⟨t, a1, a2⟩ := hc.ex
  obtain ⟨b, b1, b2⟩ := hb.ex
  exact ⟨_, ps_while hp a1 b1, while_ev a2 b2⟩
end
end DL
end

section
set_option Elab.async false
set_option linter.all false
set_option maxRecDepth 100000
set_option maxHeartbeats 4000000
/-! DL: defs, calls. -/
namespace DL
open PySem PySem.Spec PyProof.Rows L2
open Evl (Ex)

/-- a def's promise: from data to a datum -/
def spD (K : PySem.W.Frag) (cs : CT) (n : Nat) (f : List D → Mo D) : Sp := fun vs H Q _ => ∃ ap B ds p d p', vs.length = n ∧ Ex B H ∧ PotAt ap H p ∧ B ap = none ∧ Reps K cs ap B ds vs ∧ f ds p = some (d, p') ∧ KE K cs ap B H p' d Q

/-- a def keeps a promise; g: only where no repr is under way -/
structure FnD (g : Bool) (P : Program) (w : World) (K : PySem.W.Frag) (mg : Str → Option Value) (base : Heap) (k : Nat) (f : Addr) (fd : FuncData) (ps : List Str) (sp : Sp) : Prop where
  len : ∀ vs H Q E, sp vs H Q E → vs.length = ps.length
  run : ∀ (A : Around) (outer : List Env) (s : Shared) (H : Hp) (args : Args) (us : List Value) (vs : List V) (Q : VK) (E : XK), Room k A → (g = true → A.guards = some []) → Env0 P w K mg base A outer s H → BindsTo s fd args (ps.zip us) → Vals vs us → sp vs H Q E →
    codeAny (model P w) A (.call (.ref f) args) (CR CX0 outer P w H s Q E) s
theorem FnD.of {P : Program} {w : World} {K : PySem.W.Frag} {mg : Str → Option Value} {base : Heap} {k : Nat} {f : Addr} {fd : FuncData} {ps : List Str} {sp : Sp} (g : Bool) (F : FnOk P w K mg base CX0 k f fd ps sp) : FnD g P w K mg base k f fd ps sp :=
  ⟨F.len, fun A outer s H args us vs Q E hr _ e0 hb r h => F.run A outer s H args us vs Q E hr e0 hb r h⟩
theorem FnD.ok {P : Program} {w : World} {K : PySem.W.Frag} {mg : Str → Option Value} {base : Heap} {k : Nat} {f : Addr} {fd : FuncData} {ps : List Str} {sp : Sp} (F : FnD false P w K mg base k f fd ps sp) : FnOk P w K mg base CX0 k f fd ps sp :=
  ⟨F.len, fun A outer s H args us vs Q E hr e0 hb r h => F.run A outer s H args us vs Q E hr (fun z => nomatch z) e0 hb r h⟩
theorem FnD.mono {g g' : Bool} {P : Program} {w : World} {K : PySem.W.Frag} {mg : Str → Option Value} {base : Heap} {k k' : Nat} {f : Addr} {fd : FuncData} {ps : List Str} {sp : Sp} (F : FnD g P w K mg base k f fd ps sp) (hk : k ≤ k') (hg : g = true → g' = true) : FnD g' P w K mg base k' f fd ps sp :=
  ⟨F.len, fun A outer s H args us vs Q E hr h' e0 hb r h => F.run A outer s H args us vs Q E (hr.mono hk) (fun z => h' (hg z)) e0 hb r h⟩

/-- what happens in a def's own frame -/
abbrev cx0 (P : Program) (w : World) (K : PySem.W.Frag) (mg : Str → Option Value) (base : Heap) (N : List Str) (qual : Str) (sc : Scope) (f : Addr) (cdv : Value) (A : Around) (outer : List Env) (s : Shared) (H : Hp) (E : XK) : Cx :=
  (cxOf CX0 P w K mg base N qual sc f cdv A outer s H E).nox
/-- the def at f, entered -/
theorem fn_enter {g : Bool} {P : Program} {w : World} {K : PySem.W.Frag} {mg : Str → Option Value} {base : Heap} {k : Nat} {f : Addr} {name qual : Str} {params : Arguments} {body : List Stmt} {scope : Scope} {dvs : List V} {kws : List (Str × V)} {fd : FuncData} {N ps : List Str} {sp : Sp}
    (F : FunD K name qual params body scope dvs kws f fd) (S : FnScope N ps scope) (hlen : ∀ vs H Q E, sp vs H Q E → vs.length = ps.length)
    (hbody : ∀ (cdv : Value) (A : Around) (outer : List Env) (s : Shared) (H : Hp) (vs : List V) (Q : VK) (E : XK), Room k (A.deeper (envOfC qual scope s.heap.objs.size f cdv)) → (g = true → A.guards = some []) → sp vs H Q E →
      ∃ t, PSs (cx0 P w K mg base N qual scope f cdv A outer s H E) body t ∧ t { nx := fun _ H' => Q .non H', rt := Q } (L2.start N vs) H) : FnD g P w K mg base (k + 1) f fd ps sp := by
  obtain ⟨oc, od, dV, kV, doc, pm, an, cdv, ct, osl, rfl, lk, hcd, hD, hK⟩ := F.ex
  refine ⟨hlen, fun A outer s H args us vs Q E room hg e0 hbd rv hs => ?_⟩
  have kIn : K.In s.heap := e0.mod.kin.keeps fun b o z => (e0.bs b o z).1
  refine codeAny_call_function room.depth (kIn _ _ lk) rfl S.co S.gen rfl (PySem.W.codeRec_of kIn hcd) (hbd _ _ _ _ ?_)
  refine wpAny_newFunctionEnv_cells S.kind (fun y hy => ?_) fun env he s1 x => ?_
  · obtain ⟨n, v⟩ := y
    cases S.par n (List.of_mem_zip hy).1 with
    | inl q => exact .inl q
    | inr q => exact .inr ⟨q, PySem.W.cellsFrom_some _ _ _ (.inl q)⟩
  · subst he
    have lim : s.heap.NoLimit := e0.mod.nolimit.keeps fun b o z => (e0.bs b o z).1
    refine ⟨lim.keeps x.toInCall.keep, codeAny_func ?_⟩
    obtain ⟨t, ht, hq⟩ := hbody cdv A outer s H vs Q E (room.deeper _) hg hs
    refine wpAny_mono (ht.nox.run [] s1 (L2.start N vs) H _ (inv_start S room.hd e0 (hlen _ _ _ _ hs) rv x) hq) (fun fl s' z => ?_) fun e s' z => z
    have done : ∀ {σ' : L2.St} {H' : Hp} {v : V} {u : Value}, Inv (cxOf CX0 P w K mg base N qual scope f cdv A outer s H E) [] σ' H' s' → RelV v u → Q v H' → CE outer P w H s Q u s' := fun {_ H' v _} J a b => ⟨v, H', J.os, J.bare, J.base, J.hok, a, b⟩
    match fl, z with
    | .ret u, ⟨v, σ', H', J, a, b⟩ => exact done J a b
    | .next, ⟨σ', H', J, b⟩ => exact done (v := V.non) (u := Value.none) J rfl b
    | .brk, ⟨_, _, _, b⟩ => exact b.elim
    | .cont, ⟨_, _, _, b⟩ => exact b.elim

/-- the slots at the entry -/
def env0 (n : Nat) (ds : List D) : Env' := ds.map .val ++ List.replicate (n - ds.length) .un
/-- a def's denotation, from its body's -/
def runD (n : Nat) (m : MS) : List D → Mo D := fun ds => bindM (m (env0 n ds)) fun r => match r.1 with
  | .rt d => retM d
  | .ro ds => retM (.lst ds)
  | .nx => retM .non
  | _ => failM
theorem reps_map {K : PySem.W.Frag} {cs : CT} {ap : Addr} {B : Hp} {ds : List D} {vs : List V} (h : Reps K cs ap B ds vs) {i : Nat} {d : D} (e : ds[i]? = some d) : ∃ v, (vs.map some)[i]? = some (some v) ∧ Rep K cs ap B d v := by
  obtain ⟨v, h1, h2⟩ := h.get e
  exact ⟨v, by rw [List.getElem?_map, h1]; rfl, h2⟩
/-- a new list becomes a datum -/
theorem KE.own {K : PySem.W.Frag} {cs : CT} {ap : Addr} {B H B' H' : Hp} {p : Pt} {ds : List D} {Q : VK} {a : Addr} {xs : List V} (q : KE K cs ap B H p (.lst ds) Q) (n : Nxt ap B H B' H') (hp : PotAt ap H' p) (hn : H a = none) (hb : B' a = none) (hh : H' a = some (.lst xs)) (r : Reps K cs ap B' ds xs) : Q (.ref a) H' := by
  have ex : Ex B' (upd B' a (.lst xs)) := Ex.new hb
  refine q (upd B' a (.lst xs)) H' (.ref a) ⟨n.bb.trans ex, fun b o hbo => ?_, fun b hb1 hb2 => ?_, n.fr, n.nn⟩ hp (by simp only [Rep]; exact ⟨a, xs, rfl, upd_same, r.mono ex⟩)
  · by_cases z : b = a
    · subst z; rw [upd_same] at hbo; rw [hh]; exact hbo
    · rw [upd_ne z] at hbo; exact n.bh _ _ hbo
  · have z : b ≠ a := fun z => hb1 (z ▸ hn)
    rw [upd_ne z]; exact n.nw b hb1 hb2
/-- the state at the entry -/
theorem ok_start {K : PySem.W.Frag} {cs : CT} {ap : Addr} {B H : Hp} {N : List Str} {ds : List D} {vs : List V} {p : Pt} (e : Ex B H) (hp : PotAt ap H p) (hb : B ap = none) (r : Reps K cs ap B ds vs) : Ok K cs ap H B B (L2.start N vs) (env0 N.length ds) H p := by
  have hl := r.length
  have own : ∀ (i : Nat) sv, (env0 N.length ds)[i]? = some sv → sv.prv = true → False := fun i sv h g => by
    unfold env0 at h
    rw [List.getElem?_append] at h
    split at h
    · rw [List.getElem?_map] at h
      cases z : ds[i]? with
      | none => rw [z] at h; cases h
      | some d => rw [z] at h; cases h; cases g
    · rw [List.getElem?_replicate] at h
      split at h
      · cases h; cases g
      · cases h
  refine ⟨Nxt.refl e, hp, hb, by rw [show H ap = _ from hp]; exact (fun z => nomatch z), fun i sv h => ?_, fun i sv a h g _ => (own i sv h g).elim, fun i j sv sv' a _ h _ g _ _ => (own i sv h g).elim, by unfold L2.start env0; simp [hl], fun i c es a h _ => (own i _ h rfl).elim⟩
  unfold env0 at h
  unfold L2.start
  rw [List.getElem?_append] at h
  split at h
  · rename_i hi
    rw [List.getElem?_map] at h
    cases z : ds[i]? with
    | none => rw [z] at h; cases h
    | some d =>
      rw [z] at h
      cases h
      rw [List.length_map] at hi
      rw [List.getElem?_append_left (by rw [List.length_map]; omega)]
      exact reps_map r z
  · rw [List.getElem?_replicate] at h
    split at h
    · cases h; trivial
    · cases h
/-- THE RULE of a def -/
theorem fn_d {g : Bool} {cs : CT} {P : Program} {w : World} {K : PySem.W.Frag} {mg : Str → Option Value} {base : Heap} {k : Nat} {f : Addr} {name qual : Str} {params : Arguments} {body : List Stmt} {scope : Scope} {dvs : List V} {kws : List (Str × V)} {fd : FuncData} {N ps : List Str} {m : MS}
    (F : FunD K name qual params body scope dvs kws f fd) (S : FnScope N ps scope)
    (hbody : ∀ (cdv : Value) (A : Around) (outer : List Env) (s : Shared) (H : Hp) (E : XK), Room k (A.deeper (envOfC qual scope s.heap.objs.size f cdv)) → (g = true → A.guards = some []) →
      PSsD cs (cx0 P w K mg base N qual scope f cdv A outer s H E) body m) : FnD g P w K mg base (k + 1) f fd ps (spD K cs ps.length (runD N.length m)) := by
  refine fn_enter F S (fun vs H Q E h => ?_) fun cdv A outer s H vs Q E hr hg h => ?_
  · obtain ⟨ap, B, ds, p, d, p', h, _⟩ := h
    exact h
  · obtain ⟨ap, B, ds, p, d, p', hl, e, hp, hb, r, hm, q⟩ := h
    obtain ⟨t, ht, hv⟩ := (hbody cdv A outer s H E hr hg).ex
    refine ⟨t, ht, ?_⟩
    obtain ⟨⟨o, env'⟩, p1, e1, e2⟩ := bindM_some hm
    refine hv ap H B B _ _ H p _ o env' p1 (ok_start e hp hb r) e1 ?_
    cases o with
    | rt d' => cases e2; exact q
    | nx => cases e2; exact fun B' σ' H' _ k' => q B' H' .non k'.st k'.pot (by simp only [Rep])
    | ro ds' => cases e2; exact fun B' H' a xs n hp' h0 hb' hh r' => KE.own q n hp' h0 hb' hh r'
    | bk => cases e2
    | ct => cases e2
/-- a def that hands back a new list -/
def spO (K : PySem.W.Frag) (cs : CT) (n : Nat) (f : List D → Mo (List D)) : Sp := fun vs H Q _ => ∃ ap B ds p es p', vs.length = n ∧ Ex B H ∧ PotAt ap H p ∧ B ap = none ∧ Reps K cs ap B ds vs ∧ f ds p = some (es, p') ∧ KO K cs ap B H p' es Q
def runO (n : Nat) (m : MS) : List D → Mo (List D) := fun ds => bindM (m (env0 n ds)) fun r => match r.1 with
  | .ro ds => retM ds
  | _ => failM
theorem fn_dO {g : Bool} {cs : CT} {P : Program} {w : World} {K : PySem.W.Frag} {mg : Str → Option Value} {base : Heap} {k : Nat} {f : Addr} {name qual : Str} {params : Arguments} {body : List Stmt} {scope : Scope} {dvs : List V} {kws : List (Str × V)} {fd : FuncData} {N ps : List Str} {m : MS}
    (F : FunD K name qual params body scope dvs kws f fd) (S : FnScope N ps scope)
    (hbody : ∀ (cdv : Value) (A : Around) (outer : List Env) (s : Shared) (H : Hp) (E : XK), Room k (A.deeper (envOfC qual scope s.heap.objs.size f cdv)) → (g = true → A.guards = some []) →
      PSsD cs (cx0 P w K mg base N qual scope f cdv A outer s H E) body m) : FnD g P w K mg base (k + 1) f fd ps (spO K cs ps.length (runO N.length m)) := by
  refine fn_enter F S (fun vs H Q E h => ?_) fun cdv A outer s H vs Q E hr hg h => ?_
  · obtain ⟨ap, B, ds, p, d, p', h, _⟩ := h
    exact h
  · obtain ⟨ap, B, ds, p, d, p', hl, e, hp, hb, r, hm, q⟩ := h
    obtain ⟨t, ht, hv⟩ := (hbody cdv A outer s H E hr hg).ex
    refine ⟨t, ht, ?_⟩
    obtain ⟨⟨o, env'⟩, p1, e1, e2⟩ := bindM_some hm
    refine hv ap H B B _ _ H p _ o env' p1 (ok_start e hp hb r) e1 ?_
    cases o with
    | rt d' => cases e2
    | nx => cases e2
    | ro ds' => cases e2; exact q
    | bk => cases e2
    | ct => cases e2

/-! ### calls -/
section
variable {cs : CT} {X : Cx} {g : Bool} {k : Nat} {f : Addr} {fd : FuncData} {ps : List Str} {sp : Sp} {x : Str} {p pos : Pos} {e : Expr} {es : List Expr} {m : Env' → Mo (List D)} {fm : List D → Mo D}
/-- the callee runs -/
theorem run_d {ds : List Value} {pins : List (Addr × Obj)} {σ : L2.St} {H : Hp} {s : Shared} {Q : VK} {args : Args} {us : List Value} {vs : List V} {E : XK} (F : FnD g X.prog X.w X.K X.mg X.base k f fd ps sp) (hr : Room k X.A) (hg : g = true → X.A.guards = some [])
    (hb : BindsTo s fd args (ps.zip us)) (I : Inv X pins σ H s) (r : Vals vs us) (h : sp vs H Q E) : codeAny (model X.prog X.w) X.A (.call (.ref f) args) (fun r s' => match r with
      | .ok (.ret u) => EP X pins σ Q u s'
      | .ok _ => False
      | .error e => False) s := by
  refine codeAny_mono (F.run X.A X.stack s H args us vs Q E hr hg I.env0 hb r h) fun r s' hq => ?_
  match r, hq with
  | .ok (.ret u), hq => exact I.after hq
  | .error e, hq => exact hq.elim
  | .ok .next, hq => exact hq.elim
  | .ok .brk, hq => exact hq.elim
  | .ok .cont, hq => exact hq.elim
theorem call_d {pins : List (Addr × Obj)} {σ : L2.St} {H : Hp} {s : Shared} {Q : VK} {kw : List (Str × Value)} {pv us : List Value} {vs : List V} {E : XK} (F : FnD g X.prog X.w X.K X.mg X.base k f fd ps sp) (hr : Room k X.A) (hg : g = true → X.A.guards = some [])
    (hb : BindsTo s fd ⟨pv, kw⟩ (ps.zip us)) (I : Inv X pins σ H s) (r : Vals vs us) (h : sp vs H Q E) : wpAny (model X.prog X.w) X.A (call (.ref f) pv kw) (EP X pins σ Q) X.xe s := by
  refine wpAny_call (codeAny_mono (run_d (ds := []) F hr hg hb I r h) fun r s' hq => ?_)
  match r, hq with
  | .ok (.ret u), hq => exact hq
  | .error e, hq => exact hq.elim
  | .ok .next, hq => exact hq.elim
  | .ok .brk, hq => exact hq.elim
  | .ok .cont, hq => exact hq.elim
/-- a reading of a call: the arguments, then the promise -/
def tCl (sp : Sp) (t : TA) : TE := fun σ H Q => t σ H fun vs H1 => sp vs H1 Q E0
theorem call_ev {K : PySem.W.Frag} {n : Nat} {t : TA} (h : EvA K cs t m) (hn : ∀ ds p d p', fm ds p = some (d, p') → ds.length = n) : EvE K cs (tCl (spD K cs n fm) t) (mCall fm m) := by
  intro ap H0 B0 B σ env H p Q d p' k hm q
  obtain ⟨ds, p1, e1, e2⟩ := bindM_some hm
  refine h ap H0 B0 B σ env H p _ ds p1 k e1 fun B1 H1 vs n1 hp1 r => ?_
  have k1 := k.nxt n1 hp1
  exact ⟨ap, B1, ds, p1, d, p', by rw [r.length, hn ds p1 d p' e2], k1.bh, hp1, k1.bap, r, e2, fun B' H' v n2 hp2 r2 => q B' H' v (n1.trans n2) hp2 r2⟩
/-- how many arguments are written -/
def lenM (n : Nat) (f : List D → Mo D) : List D → Mo D := fun ds => if ds.length = n then f ds else failM
theorem lenM_len {n : Nat} {f : List D → Mo D} : ∀ ds p d p', lenM n f ds p = some (d, p') → ds.length = n := by
  intro ds p d p' h
  unfold lenM at h
  split at h
  · assumption
  · cases h
theorem spD_len {K : PySem.W.Frag} {n : Nat} {vs : List V} {H : Hp} {Q : VK} {E : XK} (h : spD K cs n (lenM n fm) vs H Q E) : spD K cs n fm vs H Q E := by
  obtain ⟨ap, B, ds, p, d, p', hl, e, hp, hb, r, hm, q⟩ := h
  refine ⟨ap, B, ds, p, d, p', hl, e, hp, hb, r, ?_, q⟩
  unfold lenM at hm
  rw [if_pos (by rw [← r.length]; exact hl)] at hm
  exact hm
/-- f(e, ..) -/
theorem p_call {n : Nat} (F : FnD g X.prog X.w X.K X.mg X.base k f fd ps (spD X.K cs n fm)) (hr : Room k X.A) (hgd : g = true → X.A.guards = some []) (hm : X.mg x = some (.ref f)) (hk : PySem.W.keepIn X.K (.ref f) = true) (hb : Binds X.K fd ps []) (ha : PAD cs X (e :: es) m) (hg : Gl X x := by rfl)
    (hdb : (x == ("__debug__" : Str)) = false := by decide) (he : starEach (e :: es) X.env = (false, eval e X.env) :: starEach es X.env := by rfl) (hpl : (backTo pos (starEach es X.env)).any (·.1) = false := by rfl) :
    PED cs X (.Call (.Name x p) (e :: es) [] pos) (mCall (lenM n fm) m) := by
  obtain ⟨ta, a1, a2⟩ := ha.ex
  refine ⟨tCl (spD X.K cs n (lenM n fm)) ta, ⟨fun pins s σ H Q I h => ?_⟩, call_ev a2 lenM_len⟩
  refine wpAny_Call_Name_kw (ld_glob I hg hm ?_ hdb)
  refine PySem.W.callWith_K (h₀ := X.base) I.ok.mod.kin hk (thn (a1.run pos pins s σ H _ I h) fun us s1 ⟨vs, H1, I1, r, q⟩ => ⟨I1.kIn, ?_⟩) he hpl
  have hb1 := hb s1 us I1.kIn (by rw [List.append_nil, ← r.length]; exact F.len _ _ _ _ (spD_len q))
  rw [List.append_nil] at hb1
  exact call_d (pv := us) (kw := []) F hr hgd hb1 I1 r (spD_len q)
theorem callO_ev {K : PySem.W.Frag} {n : Nat} {t : TA} {fo : List D → Mo (List D)} (h : EvA K cs t m) (hn : ∀ ds p d p', fo ds p = some (d, p') → ds.length = n) : EvO K cs (tCl (spO K cs n fo) t) (mCallO fo m) := by
  intro ap H0 B0 B σ env H p Q d p' k hm q
  obtain ⟨ds, p1, e1, e2⟩ := bindM_some hm
  refine h ap H0 B0 B σ env H p _ ds p1 k e1 fun B1 H1 vs n1 hp1 r => ?_
  have k1 := k.nxt n1 hp1
  refine ⟨ap, B1, ds, p1, d, p', by rw [r.length, hn ds p1 d p' e2], k1.bh, hp1, k1.bap, r, e2, fun B' H' a xs n2 hp2 h0 hb hh r2 => q B' H' a xs (n1.trans n2) hp2 ?_ hb hh r2⟩
  cases z : H a with
  | none => rfl
  | some o => exact absurd h0 (n1.nn a (by rw [z]; exact fun y => nomatch y))
def lenO (n : Nat) (f : List D → Mo (List D)) : List D → Mo (List D) := fun ds => if ds.length = n then f ds else failM
theorem lenO_len {n : Nat} {f : List D → Mo (List D)} : ∀ ds p d p', lenO n f ds p = some (d, p') → ds.length = n := by
  intro ds p d p' h
  unfold lenO at h
  split at h
  · assumption
  · cases h
theorem spO_len {K : PySem.W.Frag} {n : Nat} {vs : List V} {H : Hp} {Q : VK} {E : XK} {fo : List D → Mo (List D)} (h : spO K cs n (lenO n fo) vs H Q E) : spO K cs n fo vs H Q E := by
  obtain ⟨ap, B, ds, p, d, p', hl, e, hp, hb, r, hm, q⟩ := h
  refine ⟨ap, B, ds, p, d, p', hl, e, hp, hb, r, ?_, q⟩
  unfold lenO at hm
  rw [if_pos (by rw [← r.length]; exact hl)] at hm
  exact hm
/-- f(e, ..), a new list handed back -/
theorem p_callO {n : Nat} {fo : List D → Mo (List D)} (F : FnD g X.prog X.w X.K X.mg X.base k f fd ps (spO X.K cs n fo)) (hr : Room k X.A) (hgd : g = true → X.A.guards = some []) (hm : X.mg x = some (.ref f)) (hk : PySem.W.keepIn X.K (.ref f) = true) (hb : Binds X.K fd ps []) (ha : PAD cs X (e :: es) m) (hg : Gl X x := by rfl)
    (hdb : (x == ("__debug__" : Str)) = false := by decide) (he : starEach (e :: es) X.env = (false, eval e X.env) :: starEach es X.env := by rfl) (hpl : (backTo pos (starEach es X.env)).any (·.1) = false := by rfl) :
    POD cs X (.Call (.Name x p) (e :: es) [] pos) (mCallO (lenO n fo) m) := by
  obtain ⟨ta, a1, a2⟩ := ha.ex
  refine ⟨tCl (spO X.K cs n (lenO n fo)) ta, ⟨fun pins s σ H Q I h => ?_⟩, callO_ev a2 lenO_len⟩
  refine wpAny_Call_Name_kw (ld_glob I hg hm ?_ hdb)
  refine PySem.W.callWith_K (h₀ := X.base) I.ok.mod.kin hk (thn (a1.run pos pins s σ H _ I h) fun us s1 ⟨vs, H1, I1, r, q⟩ => ⟨I1.kIn, ?_⟩) he hpl
  have hb1 := hb s1 us I1.kIn (by rw [List.append_nil, ← r.length]; exact F.len _ _ _ _ (spO_len q))
  rw [List.append_nil] at hb1
  exact call_d (pv := us) (kw := []) F hr hgd hb1 I1 r (spO_len q)
/-- the values of a call by names alone, in the parameters' order -/
def pick {α : Type} (ix : List Nat) (l : List α) : List α := ix.filterMap (l[·]?)
def KwB (fd : FuncData) (ps ks : List Str) (ix : List Nat) : Prop := ∀ (s : Shared) (ws : List Value), ws.length = ks.length → BindsTo s fd ⟨[], ks.zip ws⟩ (ps.zip (pick ix ws))
theorem pick_vals {vs : List V} {us : List Value} (r : Vals vs us) : ∀ ix : List Nat, Vals (pick ix vs) (pick ix us)
  | [] => .nil
  | i :: ix => by
    unfold pick
    rw [List.filterMap_cons, List.filterMap_cons]
    cases h : vs[i]? with
    | none =>
      rw [r.none_of h]
      exact pick_vals r ix
    | some v =>
      obtain ⟨u, h1, h2⟩ := r.get h
      rw [h1]
      exact .cons h2 (pick_vals r ix)
theorem pick_reps {K : PySem.W.Frag} {ap : Addr} {B : Hp} {ds : List D} {vs : List V} (r : Reps K cs ap B ds vs) : ∀ ix : List Nat, Reps K cs ap B (pick ix ds) (pick ix vs)
  | [] => reps_nil
  | i :: ix => by
    unfold pick
    rw [List.filterMap_cons, List.filterMap_cons]
    cases h : ds[i]? with
    | none =>
      have h2 : vs[i]? = none := by
        rw [List.getElem?_eq_none_iff] at h ⊢
        rw [r.length]; exact h
      rw [h2]
      exact pick_reps r ix
    | some d =>
      obtain ⟨v, h1, h2⟩ := r.get h
      rw [h1]
      exact reps_cons h2 (pick_reps r ix)
/-- keyword values -/
structure PKD (cs : CT) (X : Cx) (kws : List Keyword) (m : Env' → Mo (List D)) : Prop where
  ex : ∃ ta, PK X kws ta ∧ EvA X.K cs ta m
theorem k_nil : PKD cs X [] mNil := by
  refine ⟨tNil, pk_nil, fun ap H0 B0 B σ env H p Q d p' k hm q => ?_⟩
  cases hm
  exact q B H [] (Nxt.refl k.bh) k.pot reps_nil
theorem k_cons {nm : Option Str} {kpos : Pos} {kws : List Keyword} {me : Env' → Mo D} (ha : PED cs X e me) (hr : PKD cs X kws m) : PKD cs X (⟨nm, e, kpos⟩ :: kws) (mCons me m) := by
  obtain ⟨ta, a1, a2⟩ := ha.ex
  obtain ⟨tr, r1, r2⟩ := hr.ex
  refine ⟨_, pk_cons a1 r1, fun ap H0 B0 B σ env H p Q d p' k hm q => ?_⟩
  obtain ⟨x, p1, e1, e2⟩ := bindM_some hm
  obtain ⟨xs, p2, e3, e4⟩ := bindM_some e2
  cases e4
  refine a2 ap H0 B0 B σ env H p _ x p1 k e1 fun B1 H1 v n1 hp1 g1 => ?_
  have k1 := k.nxt n1 hp1
  exact r2 ap H0 B0 B1 σ env H1 p1 _ xs p' k1 e3 fun B2 H2 vs n2 hp2 g2 => q B2 H2 (v :: vs) (n1.trans n2) hp2 (reps_cons (g1.mono n2.bb) g2)
def pickM (c : Nat) (ix : List Nat) (f : List D → Mo D) : List D → Mo D := fun ds => if ds.length = c then f (pick ix ds) else failM
/-- f(k = v, ..), names alone -/
theorem p_callK {n : Nat} {ks : List Str} {ix : List Nat} {kws : List Keyword} (F : FnD g X.prog X.w X.K X.mg X.base k f fd ps (spD X.K cs n fm)) (hr : Room k X.A) (hgd : g = true → X.A.guards = some []) (hm : X.mg x = some (.ref f)) (hk : PySem.W.keepIn X.K (.ref f) = true) (hb : KwB fd ps ks ix) (ha : PKD cs X kws m)
    (hks : (backToKw pos (keywordEach kws X.env)).filterMap (·.1) = ks := by rfl) (hall : (backToKw pos (keywordEach kws X.env)).all (·.1.isSome) = true := by rfl) (hn : ix.length = n := by rfl) (hlt : ∀ i ∈ ix, i < ks.length := by decide) (hg : Gl X x := by rfl)
    (hdb : (x == ("__debug__" : Str)) = false := by decide) (hpl : ((backTo pos (starEach [] X.env)).any (·.1) || (backToKw pos (keywordEach kws X.env)).any (·.1.isNone)) = false := by rfl) :
    PED cs X (.Call (.Name x p) [] kws pos) (mCall (pickM ks.length ix fm) m) := by
  obtain ⟨ta, a1, a2⟩ := ha.ex
  refine ⟨tCl (spD X.K cs ks.length (pickM ks.length ix fm)) ta, ⟨fun pins s σ H Q I h => ?_⟩, call_ev a2 fun ds p d p' h => ?_⟩
  · refine wpAny_Call_Name_kw (ld_glob I hg hm ?_ hdb)
    refine PySem.W.callWith_KW0 (h₀ := X.base) I.ok.mod.kin hk hall (thn (a1.run pos pins s σ H _ I h) fun ws s1 ⟨zs, H1, I1, r, q⟩ => ⟨I1.kIn, ?_⟩) hpl
    rw [hks]
    obtain ⟨ap, B, ds, p, d, p', hl, ex, hp, hbp, rr, hmm, qq⟩ := q
    unfold pickM at hmm
    rw [if_pos (by rw [← rr.length]; exact hl)] at hmm
    have hlw : ws.length = ks.length := by rw [← r.length]; exact hl
    have hpl2 : (pick ix zs).length = n := by
      have : ∀ (ix : List Nat), (∀ i ∈ ix, i < ks.length) → (pick ix zs).length = ix.length := by
        intro ix
        induction ix with
        | nil => intro _; rfl
        | cons i ix ih =>
          intro hi
          have h1 : i < zs.length := by rw [hl]; exact hi i List.mem_cons_self
          unfold pick
          rw [List.filterMap_cons, List.getElem?_eq_getElem h1]
          show ((ix.filterMap (zs[·]?)).length + 1) = _
          rw [List.length_cons]
          exact congrArg (· + 1) (ih fun j hj => hi j (List.mem_cons_of_mem _ hj))
      rw [this ix hlt, hn]
    exact call_d (E := E0) (pv := []) (kw := ks.zip ws) F hr hgd (hb s1 ws hlw) I1 (pick_vals r ix) ⟨ap, B, pick ix ds, p, d, p', hpl2, ex, hp, hbp, pick_reps rr ix, hmm, qq⟩
  · unfold pickM at h
    split at h
    · assumption
    · cases h
end
end DL
end

section
set_option Elab.async false
set_option linter.all false
set_option maxRecDepth 100000
set_option maxHeartbeats 4000000
set_option exponentiation.threshold 5000
/-! DL: operators, subscripts, slices, built-in calls. -/
namespace DL
open PySem PySem.Spec PyProof.Rows L2
open Evl (Ex)

/-- one operation, else another -/
def dOr (f g : D → D → Mo D) : D → D → Mo D := fun x y p => match f x y p with
  | some r => some r
  | none => g x y p
@[simp] theorem dOr_ret {f g : D → D → Mo D} {x y a : D} (h : f x y = retM a) : dOr f g x y = retM a := by
  funext p; unfold dOr; rw [h]; rfl
@[simp] theorem dOr_fail {f g : D → D → Mo D} {x y : D} (h : f x y = failM) : dOr f g x y = g x y := by
  funext p; unfold dOr; rw [h]; rfl
/-- no more than so great -/

def bigN : Nat := 2 ^ 4400
theorem log_big {i : Int} (h : i.natAbs < bigN) : i.natAbs.log2 < 4400 := PySem.Flt.log2_lt_of (by decide) h
theorem small_big {n : Nat} (h : n < 2 ^ 64) : n < bigN := Nat.lt_trans h (by unfold bigN; exact Nat.pow_lt_pow_right (by decide) (by decide))

section
variable {cs : CT} {X : Cx} {f g : D → D → Mo D}
theorem OpD.or {op : Value → Value → Sem Value} (h : OpD cs X op f) (h' : OpD cs X op g) : OpD cs X op (dOr f g) := by
  obtain ⟨r, h1, h2⟩ := h
  obtain ⟨r', h3, h4⟩ := h'
  refine ⟨_, OpR.or h1 h3, fun ap B H p x y v u Q d p' e hp hb rx ry hm q => ?_⟩
  unfold dOr at hm
  cases z : f x y p with
  | some w =>
    rw [z] at hm
    cases hm
    exact .inl (h2 ap B H p x y v u Q d p' e hp hb rx ry z q)
  | none =>
    rw [z] at hm
    exact .inr (h4 ap B H p x y v u Q d p' e hp hb rx ry hm q)
/-- two ints in, a flat value out -/
def dII (C : Int → Int → Bool) (f : Int → Int → D) : D → D → Mo D := fun x y => match x, y with
  | .int i, .int j => if C i j = true then retM (f i j) else failM
  | _, _ => failM
theorem opD_II {op : Value → Value → Sem Value} {C : Int → Int → Bool} {C' : Int → Int → Prop} {f : Int → Int → D} {fv : Int → Int → V} (h : OpR X op (rI C' fv)) (hC : ∀ i j, C i j = true → C' i j) (hf : ∀ ap B i j, Rep X.K cs ap B (f i j) (fv i j)) : OpD cs X op (dII C f) := by
  refine ⟨_, h, fun ap B H p x y v u Q d p' e hp hb rx ry hm q => ?_⟩
  unfold dII at hm
  split at hm
  · rename_i i j
    simp only [Rep] at rx ry
    split at hm
    · rename_i hc
      cases hm
      exact ⟨i, j, rx, ry, hC i j hc, q B H _ (Nxt.refl e) hp (hf ap B i j)⟩
    · cases hm
  · cases hm
theorem opD_II0 {op : Value → Value → Sem Value} {f : Int → Int → D} {fv : Int → Int → V} (h : OpR X op (rI0 fv)) (hf : ∀ ap B i j, Rep X.K cs ap B (f i j) (fv i j)) : OpD cs X op (dII (fun _ _ => true) f) := by
  refine ⟨_, h, fun ap B H p x y v u Q d p' e hp hb rx ry hm q => ?_⟩
  unfold dII at hm
  split at hm
  · rename_i i j
    simp only [Rep] at rx ry
    rw [if_pos rfl] at hm
    cases hm
    exact ⟨i, j, rx, ry, q B H _ (Nxt.refl e) hp (hf ap B i j)⟩
  · cases hm
def dAddI := dII (fun _ _ => true) fun i j => .int (i + j)
def dSubI := dII (fun _ _ => true) fun i j => .int (i - j)
def dMulI := dII (fun i j => decide (i.natAbs < bigN) && decide (j.natAbs < bigN)) fun i j => .int (i * j)
def dDivI := dII (fun _ j => decide (j ≠ 0) && decide (j.natAbs < bigN)) fun i j => .int (i.fdiv j)
def dModI := dII (fun _ j => decide (0 < j)) fun i j => .int (i % j)
def dPowI := dII (fun i j => decide (0 ≤ j) && (decide (j ≤ 1000000) && decide (i.natAbs < 2 ^ 64))) fun i j => .int (i ^ j.toNat)
def dLt := dII (fun _ _ => true) fun i j => .bl (decide (i < j))
def dLe := dII (fun _ _ => true) fun i j => .bl (decide (i ≤ j))
def dGt := dII (fun _ _ => true) fun i j => .bl (decide (j < i))
def dGe := dII (fun _ _ => true) fun i j => .bl (decide (j ≤ i))
theorem op_addI : OpD cs X (binaryOp .Add) dAddI := opD_II0 op_add fun _ _ _ _ => by simp only [Rep]
theorem op_subI : OpD cs X (binaryOp .Sub) dSubI := opD_II0 op_sub fun _ _ _ _ => by simp only [Rep]
theorem op_mulI : OpD cs X (binaryOp .Mult) dMulI := opD_II op_mulW (fun i j h => by
  rw [Bool.and_eq_true] at h
  have h1 := log_big (of_decide_eq_true h.1)
  have h2 := log_big (of_decide_eq_true h.2)
  unfold CMulW
  omega) fun _ _ _ _ => by simp only [Rep]
def CDivX (_ j : Int) : Prop := j ≠ 0 ∧ j.natAbs.log2 < 9000
theorem op_divX : OpR X (binaryOp .FloorDiv) (rI CDivX fun i j => .int (i.fdiv j)) := opI fun i j _ _ _ _ _ hc q => floordiv_int hc.1 q (.inl (PyProof.noPylong_of_log2 hc.2))
theorem op_divI : OpD cs X (binaryOp .FloorDiv) dDivI := opD_II op_divX (fun i j h => by
  rw [Bool.and_eq_true] at h
  have h2 := log_big (of_decide_eq_true h.2)
  exact ⟨of_decide_eq_true h.1, by omega⟩) fun _ _ _ _ => by simp only [Rep]
theorem op_modI : OpD cs X (binaryOp .Mod) dModI := opD_II op_mod (fun i j h => of_decide_eq_true h) fun _ _ _ _ => by simp only [Rep]
theorem op_powI : OpD cs X (binaryOp .Pow) dPowI := opD_II op_pow (fun i j h => by
  rw [Bool.and_eq_true, Bool.and_eq_true] at h
  exact ⟨of_decide_eq_true h.1, of_decide_eq_true h.2.1, of_decide_eq_true h.2.2⟩) fun _ _ _ _ => by simp only [Rep]
theorem op_ltI : OpD cs X (compareOp .Lt) dLt := opD_II0 op_lt fun _ _ _ _ => by simp only [Rep]
theorem op_leI : OpD cs X (compareOp .LtE) dLe := opD_II0 op_le fun _ _ _ _ => by simp only [Rep]
theorem op_gtI : OpD cs X (compareOp .Gt) dGt := opD_II0 op_gt fun _ _ _ _ => by simp only [Rep]
theorem op_geI : OpD cs X (compareOp .GtE) dGe := opD_II0 op_ge fun _ _ _ _ => by simp only [Rep]
/-- a new list as a datum -/
theorem KE.newL {K : PySem.W.Frag} {ap : Addr} {B H : Hp} {p : Pt} {ds : List D} {xs : List V} {Q : VK} (q : KE K cs ap B H p (.lst ds) Q) (e : Ex B H) (hp : PotAt ap H p) (r : Reps K cs ap B ds xs) : ∀ t, H t = none → Q (.ref t) (upd H t (.lst xs)) := by
  intro t ht
  have n : Nxt ap B H (upd B t (.lst xs)) (upd H t (.lst xs)) := Nxt.new e ht
  exact q _ _ _ n (hp.new ht) (by simp only [Rep]; exact ⟨t, xs, rfl, upd_same, r.mono n.bb⟩)
theorem KE.newT {K : PySem.W.Frag} {ap : Addr} {B H : Hp} {p : Pt} {ds : List D} {xs : List V} {Q : VK} (q : KE K cs ap B H p (.tup ds) Q) (e : Ex B H) (hp : PotAt ap H p) (r : Reps K cs ap B ds xs) : ∀ t, H t = none → Q (.ref t) (upd H t (.tup xs)) := by
  intro t ht
  have n : Nxt ap B H (upd B t (.tup xs)) (upd H t (.tup xs)) := Nxt.new e ht
  exact q _ _ _ n (hp.new ht) (by simp only [Rep]; exact ⟨t, xs, rfl, SqT.of upd_same, r.mono n.bb⟩)
/-- a list and a list -/
def dCatL : D → D → Mo D := fun x y => match x, y with
  | .lst a, .lst b => if a.length + b.length ≤ 100000 then retM (.lst (a ++ b)) else failM
  | _, _ => failM
theorem op_catL : OpD cs X (binaryOp .Add) dCatL := by
  refine ⟨_, op_cat, fun ap B H p x y v u Q d p' e hp hb rx ry hm q => ?_⟩
  unfold dCatL at hm
  split at hm
  · rename_i a b
    simp only [Rep] at rx ry
    obtain ⟨l, xs, rfl, h1, r1⟩ := rx
    obtain ⟨l', ys, rfl, h2, r2⟩ := ry
    split at hm
    · rename_i hz
      cases hm
      exact ⟨l, l', xs, ys, rfl, rfl, e _ _ h1, e _ _ h2, sz100 (by rw [r1.length, r2.length]; exact hz), q.newL e hp (r1.append r2)⟩
    · cases hm
  · cases hm
/-- a list, so many times -/
def repD (ds : List D) (k : Nat) : List D := (List.replicate k ds).flatten
theorem Reps.rep {K : PySem.W.Frag} {ap : Addr} {B : Hp} {ds : List D} {xs : List V} (h : Reps K cs ap B ds xs) : ∀ k, Reps K cs ap B (repD ds k) (List.replicate k xs).flatten
  | 0 => reps_nil
  | k + 1 => by
    unfold repD
    rw [List.replicate_succ, List.replicate_succ, List.flatten_cons, List.flatten_cons]
    exact h.append (Reps.rep h k)
def dRepL : D → D → Mo D := fun x y => match x, y with
  | .lst a, .int k => if k ≤ 100000 ∧ -100000 ≤ k ∧ a.length * k.toNat ≤ 100000 then retM (.lst (repD a k.toNat)) else failM
  | _, _ => failM
theorem op_repL : OpD cs X (binaryOp .Mult) dRepL := by
  refine ⟨_, op_rep, fun ap B H p x y v u Q d p' e hp hb rx ry hm q => ?_⟩
  unfold dRepL at hm
  split at hm
  · rename_i a k
    simp only [Rep] at rx ry
    obtain ⟨l, xs, rfl, h1, r1⟩ := rx
    split at hm
    · rename_i hz
      cases hm
      exact ⟨l, k, xs, rfl, ry, e _ _ h1, by omega, by omega, sz100 (by rw [r1.length]; exact hz.2.2), q.newL e hp (r1.rep k.toNat)⟩
    · cases hm
  · cases hm
/-- a tuple and a tuple, neither empty -/
def dCatT : D → D → Mo D := fun x y => match x, y with
  | .tup a, .tup b => if a ≠ [] ∧ b ≠ [] ∧ a.length + b.length ≤ 100000 then retM (.tup (a ++ b)) else failM
  | _, _ => failM
end
/-- new lists, as the def's own: the same by a POD -/
def oCat (a b : Env' → Mo D) : Env' → Mo (List D) := fun env => bindM (a env) fun x => bindM (b env) fun y => match x, y with
  | .lst a, .lst b => if a.length + b.length ≤ 100000 then retM (a ++ b) else failM
  | _, _ => failM
def oRep (a b : Env' → Mo D) : Env' → Mo (List D) := fun env => bindM (a env) fun x => bindM (b env) fun y => match x, y with
  | .lst a, .int k => if k ≤ 100000 ∧ -100000 ≤ k ∧ a.length * k.toNat ≤ 100000 then retM (repD a k.toNat) else failM
  | _, _ => failM
/-- a slice's part -/
def mNoP : Env' → Mo (Option Int) := fun _ => retM none
def mPart (a : Env' → Mo D) : Env' → Mo (Option Int) := fun env => bindM (a env) fun x => match x with
  | .int i => retM (some i)
  | _ => failM
def cutD (ds : List D) (lo hi : Option Int) : List D := (ds.drop (HT.sIx ds.length 0 lo)).take (HT.sIx ds.length ds.length hi - HT.sIx ds.length 0 lo)
def oSlice (a : Env' → Mo D) (lo hi : Env' → Mo (Option Int)) : Env' → Mo (List D) := fun env => bindM (a env) fun x => bindM (lo env) fun l => bindM (hi env) fun h => match x with
  | .lst ds => retM (cutD ds l h)
  | _ => failM
def oRev (a : Env' → Mo D) : Env' → Mo (List D) := fun env => bindM (a env) fun x => match x with
  | .lst ds => retM ds.reverse
  | _ => failM
/-- an item -/
def atD (x y : D) : Mo D := match x, y with
  | .lst ds, .int i => match atI ds i with
    | some d => retM d
    | none => failM
  | .tup ds, .int i => match atI ds i with
    | some d => retM d
    | none => failM
  | _, _ => failM
section
variable {cs : CT} {X : Cx} {e a b : Expr} {es : List Expr} {ma mb : Env' → Mo D} {pos : Pos}
/-- the end of a new list that stays unknown -/
theorem KO.new {K : PySem.W.Frag} {ap : Addr} {B H B1 H1 : Hp} {p : Pt} {ds : List D} {xs : List V} {Q : VK} (q : KO K cs ap B H p ds Q) (n : Nxt ap B H B1 H1) (hp : PotAt ap H1 p) (r : Reps K cs ap B1 ds xs) : ∀ t, H1 t = none → Q (.ref t) (upd H1 t (.lst xs)) := by
  intro t ht
  have ht0 : H t = none := by
    cases z : H t with
    | none => rfl
    | some o => exact absurd ht (n.nn t (by rw [z]; exact fun y => nomatch y))
  exact q _ _ t xs (n.trans (Nxt.newU n.bh ht)) (hp.new ht) ht0 (Evl.fresh_back n.bh ht) upd_same r
theorem o_cat (ha : PED cs X a ma) (hb : PED cs X b mb) : POD cs X (.BinOp a .Add b pos) (oCat ma mb) := by
  obtain ⟨ta, a1, a2⟩ := ha.ex
  obtain ⟨tb, b1, b2⟩ := hb.ex
  refine ⟨_, pe_op op_cat a1 b1, fun ap H0 B0 B σ env H p Q ds p' k hm q => ?_⟩
  obtain ⟨x, p1, e1, e2⟩ := bindM_some hm
  obtain ⟨y, p2, e3, e4⟩ := bindM_some e2
  split at e4
  · rename_i c d
    split at e4
    · rename_i hz
      cases e4
      refine a2 ap H0 B0 B σ env H p _ _ p1 k e1 fun B1 H1 v n1 hp1 r1 => ?_
      have k1 := k.nxt n1 hp1
      refine b2 ap H0 B0 B1 σ env H1 p1 _ _ p' k1 e3 fun B2 H2 u n2 hp2 r2 => ?_
      simp only [Rep] at r1 r2
      obtain ⟨l, xs, rfl, h1, r1⟩ := r1
      obtain ⟨l', ys, rfl, h2, r2⟩ := r2
      exact ⟨l, l', xs, ys, rfl, rfl, n2.bh _ _ (n2.bb _ _ h1), n2.bh _ _ h2, sz100 (by rw [r1.length, r2.length]; exact hz), q.new (n1.trans n2) hp2 ((r1.mono n2.bb).append r2)⟩
    · cases e4
  · cases e4
theorem o_rep (ha : PED cs X a ma) (hb : PED cs X b mb) : POD cs X (.BinOp a .Mult b pos) (oRep ma mb) := by
  obtain ⟨ta, a1, a2⟩ := ha.ex
  obtain ⟨tb, b1, b2⟩ := hb.ex
  refine ⟨_, pe_op op_rep a1 b1, fun ap H0 B0 B σ env H p Q ds p' k hm q => ?_⟩
  obtain ⟨x, p1, e1, e2⟩ := bindM_some hm
  obtain ⟨y, p2, e3, e4⟩ := bindM_some e2
  split at e4
  · rename_i c d
    split at e4
    · rename_i hz
      cases e4
      refine a2 ap H0 B0 B σ env H p _ _ p1 k e1 fun B1 H1 v n1 hp1 r1 => ?_
      have k1 := k.nxt n1 hp1
      refine b2 ap H0 B0 B1 σ env H1 p1 _ _ p' k1 e3 fun B2 H2 u n2 hp2 r2 => ?_
      simp only [Rep] at r1 r2
      obtain ⟨l, xs, rfl, h1, r1⟩ := r1
      exact ⟨l, _, xs, rfl, r2, n2.bh _ _ (n2.bb _ _ h1), by omega, by omega, sz100 (by rw [r1.length]; exact hz.2.2), q.new (n1.trans n2) hp2 ((r1.mono n2.bb).rep _)⟩
    · cases e4
  · cases e4
/-! ### subscripts, slices -/
theorem reps_at {K : PySem.W.Frag} {ap : Addr} {B : Hp} {ds : List D} {xs : List V} {i : Int} {d : D} (r : Reps K cs ap B ds xs) (h : atI ds i = some d) : ∃ w, atI xs i = some w ∧ Rep K cs ap B d w := by
  obtain ⟨j, hj1, hj2, hj3, hj4, hj5⟩ := atI_get h
  obtain ⟨w, hw1, hw2⟩ := r.get hj2
  refine ⟨w, ?_, hw2⟩
  unfold atI at h ⊢
  rw [r.length]
  cases z : ixN ds.length i with
  | none => rw [z] at h; cases h
  | some j' =>
    have e1 := (ixN_seq z).1
    rw [hj1] at e1
    cases e1
    exact hw1
theorem ix_ev {K : PySem.W.Frag} {ta tb : TE} (ha : EvE K cs ta ma) (hb : EvE K cs tb mb) : EvE K cs (tOp (rIx K) ta tb) (mBin atD ma mb) := by
  refine bin_ev ha hb fun ap B H p x y v u Q d p' e hp hbp rx ry hm q => ?_
  unfold atD at hm
  split at hm
  · rename_i ds i
    cases hd : atI ds i with
    | none => rw [hd] at hm; cases hm
    | some d' =>
      rw [hd] at hm
      cases hm
      simp only [Rep] at rx ry
      obtain ⟨l, xs, rfl, h1, r1⟩ := rx
      obtain ⟨w, g1, g2⟩ := reps_at r1 hd
      exact .inl ⟨l, xs, i, w, rfl, ry, SqL.of (e _ _ h1), g1, q B H w (Nxt.refl e) hp g2⟩
  · rename_i ds i
    cases hd : atI ds i with
    | none => rw [hd] at hm; cases hm
    | some d' =>
      rw [hd] at hm
      cases hm
      simp only [Rep] at rx ry
      obtain ⟨l, xs, rfl, h1, r1⟩ := rx
      obtain ⟨w, g1, g2⟩ := reps_at r1 hd
      exact .inr (.inl ⟨l, xs, i, w, rfl, ry, Evl.ex_t e h1, g1, q B H w (Nxt.refl e) hp g2⟩)
  · cases hm
theorem p_ix (ha : PED cs X a ma) (hb : PED cs X b mb) (hs : PlainIx b := by exact fun _ _ => rfl) : PED cs X (.Subscript a b pos) (mBin atD ma mb) := by
  obtain ⟨ta, a1, a2⟩ := ha.ex
  obtain ⟨tb, b1, b2⟩ := hb.ex
  exact ⟨_, pe_ix ix_seq a1 b1 hs, ix_ev a2 b2⟩
structure POx (cs : CT) (X : Cx) (e : Option Expr) (m : Env' → Mo (Option Int)) : Prop where
  ex : ∃ t, PO X e t ∧ ∀ ap H0 B0 B σ env H p (Q : Option Int → Hp → Prop) o p', Ok X.K cs ap H0 B0 B σ env H p → m env p = some (o, p') → (∀ B' H', Nxt ap B H B' H' → PotAt ap H' p' → Q o H') → t σ H Q
theorem x_none : POx cs X none mNoP := ⟨_, po_none, fun ap H0 B0 B σ env H p Q o p' k hm q => by cases hm; exact q B H (Nxt.refl k.bh) k.pot⟩
theorem x_some (h : PED cs X e ma) : POx cs X (some e) (mPart ma) := by
  obtain ⟨te, h1, h2⟩ := h.ex
  refine ⟨_, po_some h1, fun ap H0 B0 B σ env H p Q o p' k hm q => ?_⟩
  obtain ⟨x, p1, e1, e2⟩ := bindM_some hm
  cases x <;> first | (cases e2; done) | skip
  cases e2
  refine h2 ap H0 B0 B σ env H p _ _ p' k e1 fun B1 H1 v n1 hp1 r1 => ?_
  simp only [Rep] at r1
  exact ⟨_, r1, q B1 H1 n1 hp1⟩
theorem cut_eq {K : PySem.W.Frag} {ap : Addr} {B : Hp} {ds : List D} {xs : List V} (r : Reps K cs ap B ds xs) (lo hi : Option Int) : Reps K cs ap B (cutD ds lo hi) (cutV xs lo hi) := by
  unfold cutD cutV
  rw [r.length]
  exact (r.drop _).take _
theorem o_slice {lo hi : Option Expr} {p2 : Pos} {ml mh : Env' → Mo (Option Int)} (ha : PED cs X a ma) (hl : POx cs X lo ml) (hh : POx cs X hi mh) : POD cs X (.Subscript a (.Slice lo hi none p2) pos) (oSlice ma ml mh) := by
  obtain ⟨ta, a1, a2⟩ := ha.ex
  obtain ⟨tl, l1, l2⟩ := hl.ex
  obtain ⟨th, u1, u2⟩ := hh.ex
  refine ⟨_, pe_slice sl_list a1 l1 u1, fun ap H0 B0 B σ env H p Q ds p' k hm q => ?_⟩
  obtain ⟨x, p1, e1, e2⟩ := bindM_some hm
  obtain ⟨l, p2, e3, e4⟩ := bindM_some e2
  obtain ⟨u, p3, e5, e6⟩ := bindM_some e4
  split at e6
  · rename_i es
    cases e6
    refine a2 ap H0 B0 B σ env H p _ _ p1 k e1 fun B1 H1 v n1 hp1 r1 => ?_
    have k1 := k.nxt n1 hp1
    refine l2 ap H0 B0 B1 σ env H1 p1 _ _ p2 k1 e3 fun B2 H2 n2 hp2 => ?_
    have k2 := k1.nxt n2 hp2
    refine u2 ap H0 B0 B2 σ env H2 p2 _ _ p' k2 e5 fun B3 H3 n3 hp3 => ?_
    simp only [Rep] at r1
    obtain ⟨t, xs, rfl, h1, r1⟩ := r1
    have n23 := n2.trans n3
    exact ⟨t, xs, rfl, SqL.of (n23.bh _ _ (n23.bb _ _ h1)), q.new (n1.trans n23) hp3 (cut_eq (r1.mono n23.bb) l u)⟩
  · cases e6
theorem o_rev {k1 : Nat} {p1 p2 p3 : Pos} (ha : PED cs X a ma) : POD cs X (.Subscript a (.Slice none none (some (.UnaryOp .USub (.Constant (.int 1) k1 p1) p2)) p3) pos) (oRev ma) := by
  obtain ⟨ta, a1, a2⟩ := ha.ex
  refine ⟨_, pe_revL a1, fun ap H0 B0 B σ env H p Q ds p' k hm q => ?_⟩
  obtain ⟨x, p4, e1, e2⟩ := bindM_some hm
  split at e2
  · rename_i es
    cases e2
    refine a2 ap H0 B0 B σ env H p _ _ p' k e1 fun B1 H1 v n1 hp1 r1 => ?_
    simp only [Rep] at r1
    obtain ⟨t, xs, rfl, h1, r1⟩ := r1
    exact ⟨t, xs, rfl, SqL.of (n1.bh _ _ h1), q.new n1 hp1 r1.reverse⟩
  · cases e2
/-! ### calls of built-ins -/
def CaD (cs : CT) (X : Cx) (f : Value) (m : List D → Mo D) : Prop :=
  ∃ r, CallR X f r ∧ ∀ ap B H p ds vs (Q : VK) d p', Ex B H → PotAt ap H p → B ap = none → Reps X.K cs ap B ds vs → m ds p = some (d, p') → KE X.K cs ap B H p' d Q → r vs H Q
theorem ca_ev {K : PySem.W.Frag} {r : List V → Hp → VK → Prop} {t : TA} {m : Env' → Mo (List D)} {f : List D → Mo D} (h : EvA K cs t m)
    (hr : ∀ ap B H p ds vs (Q : VK) d p', Ex B H → PotAt ap H p → B ap = none → Reps K cs ap B ds vs → f ds p = some (d, p') → KE K cs ap B H p' d Q → r vs H Q) : EvE K cs (tCB r t) (mCall f m) := by
  intro ap H0 B0 B σ env H p Q d p' k hm q
  obtain ⟨ds, p1, e1, e2⟩ := bindM_some hm
  refine h ap H0 B0 B σ env H p _ ds p1 k e1 fun B1 H1 vs n1 hp1 r1 => ?_
  have k1 := k.nxt n1 hp1
  exact hr ap B1 H1 p1 ds vs Q d p' k1.bh hp1 k1.bap r1 e2 fun B' H' v n2 hp2 r2 => q B' H' v (n1.trans n2) hp2 r2
variable {x : Str} {p : Pos} {m : Env' → Mo (List D)} {fm : List D → Mo D}
theorem p_bltn {id : String} (hc : CaD cs X (.builtin id) fm) (hm : X.mg x = none) (ha : PAD cs X (e :: es) m) (hv : bootBuiltins x = some (.builtin id) := by decide +kernel) (hg : Gl X x := by rfl) (hn : x ≠ "__name__" := by decide) (hdb : (x == ("__debug__" : Str)) = false := by decide)
    (he : starEach (e :: es) X.env = (false, eval e X.env) :: starEach es X.env := by rfl) (hpl : (backTo pos (starEach es X.env)).any (·.1) = false := by rfl) : PED cs X (.Call (.Name x p) (e :: es) [] pos) (mCall fm m) := by
  obtain ⟨ta, a1, a2⟩ := ha.ex
  obtain ⟨r, h1, h2⟩ := hc
  exact ⟨_, pe_callB h1 hg hm hv a1 hn hdb he hpl, ca_ev a2 h2⟩
theorem p_type {T : String} (hc : CaD cs X (.type T) fm) (hm : X.mg x = none) (ha : PAD cs X (e :: es) m) (hv : bootBuiltins x = some (.type T) := by decide +kernel) (hg : Gl X x := by rfl) (hn : x ≠ "__name__" := by decide) (hdb : (x == ("__debug__" : Str)) = false := by decide)
    (he : starEach (e :: es) X.env = (false, eval e X.env) :: starEach es X.env := by rfl) (hpl : (backTo pos (starEach es X.env)).any (·.1) = false := by rfl) : PED cs X (.Call (.Name x p) (e :: es) [] pos) (mCall fm m) := by
  obtain ⟨ta, a1, a2⟩ := ha.ex
  obtain ⟨r, h1, h2⟩ := hc
  exact ⟨_, pe_callTy h1 hg hm hv a1 hn hdb he hpl, ca_ev a2 h2⟩
/-- a module's name for a built-in -/
theorem p_bfun {id : String} (hc : CaD cs X (.builtin id) fm) (hm : X.mg x = some (.builtin id)) (ha : PAD cs X (e :: es) m) (hg : Gl X x := by rfl) (hdb : (x == ("__debug__" : Str)) = false := by decide)
    (he : starEach (e :: es) X.env = (false, eval e X.env) :: starEach es X.env := by rfl) (hpl : (backTo pos (starEach es X.env)).any (·.1) = false := by rfl) : PED cs X (.Call (.Name x p) (e :: es) [] pos) (mCall fm m) := by
  obtain ⟨ta, a1, a2⟩ := ha.ex
  obtain ⟨r, h1, h2⟩ := hc
  exact ⟨_, pe_callBfun h1 hg hm a1 hdb he hpl, ca_ev a2 h2⟩
def cLen : List D → Mo D
  | [.lst ds] => retM (.int (ds.length : Nat))
  | [.tup ds] => retM (.int (ds.length : Nat))
  | _ => failM
theorem reps1 {K : PySem.W.Frag} {ap : Addr} {B : Hp} {d : D} {vs : List V} (h : Reps K cs ap B [d] vs) : ∃ v, vs = [v] ∧ Rep K cs ap B d v := by
  simp only [Reps] at h
  obtain ⟨x, _, rfl, h1, rfl⟩ := h
  exact ⟨x, rfl, h1⟩
theorem reps2 {K : PySem.W.Frag} {ap : Addr} {B : Hp} {d e : D} {vs : List V} (h : Reps K cs ap B [d, e] vs) : ∃ v w, vs = [v, w] ∧ Rep K cs ap B d v ∧ Rep K cs ap B e w := by
  simp only [Reps] at h
  obtain ⟨x, _, rfl, h1, y, _, rfl, h2, rfl⟩ := h
  exact ⟨x, y, rfl, h1, h2⟩
theorem ca_len : CaD cs X (.builtin "len") cLen := by
  refine ⟨_, call_len_seq, fun ap B H p ds vs Q d p' e hp hb r hm q => ?_⟩
  unfold cLen at hm
  split at hm
  · cases hm
    obtain ⟨v, rfl, rv⟩ := reps1 r
    simp only [Rep] at rv
    obtain ⟨a, xs, rfl, h1, r1⟩ := rv
    exact ⟨a, xs, rfl, .inl (SqL.of (e _ _ h1)), q B H _ (Nxt.refl e) hp (by simp only [Rep, r1.length])⟩
  · cases hm
    obtain ⟨v, rfl, rv⟩ := reps1 r
    simp only [Rep] at rv
    obtain ⟨a, xs, rfl, h1, r1⟩ := rv
    exact ⟨a, xs, rfl, .inr (Evl.ex_t e h1), q B H _ (Nxt.refl e) hp (by simp only [Rep, r1.length])⟩
  · cases hm
def cAbs : List D → Mo D
  | [.int i] => retM (.int (if i < 0 then -i else i))
  | _ => failM
theorem ca_abs : CaD cs X (.builtin "abs") cAbs := by
  refine ⟨_, call_abs, fun ap B H p ds vs Q d p' e hp hb r hm q => ?_⟩
  unfold cAbs at hm
  split at hm
  · cases hm
    obtain ⟨v, rfl, rv⟩ := reps1 r
    simp only [Rep] at rv
    exact ⟨_, by rw [rv], q B H _ (Nxt.refl e) hp (by simp only [Rep])⟩
  · cases hm
def cMax2 : List D → Mo D
  | [.int i, .int j] => retM (.int (if j > i then j else i))
  | _ => failM
theorem ca_max2 (hc : X.calm = true) : CaD cs X (.builtin "max") cMax2 := by
  refine ⟨_, call_max2 hc, fun ap B H p ds vs Q d p' e hp hb r hm q => ?_⟩
  unfold cMax2 at hm
  split at hm
  · cases hm
    obtain ⟨v, w, rfl, rv, rw'⟩ := reps2 r
    simp only [Rep] at rv rw'
    exact ⟨_, _, by rw [rv, rw'], q B H _ (Nxt.refl e) hp (by simp only [Rep])⟩
  · cases hm
def cMin2 : List D → Mo D
  | [.int i, .int j] => retM (.int (if j < i then j else i))
  | _ => failM
theorem ca_min2 (hc : X.calm = true) : CaD cs X (.builtin "min") cMin2 := by
  refine ⟨_, call_min2 hc, fun ap B H p ds vs Q d p' e hp hb r hm q => ?_⟩
  unfold cMin2 at hm
  split at hm
  · cases hm
    obtain ⟨v, w, rfl, rv, rw'⟩ := reps2 r
    simp only [Rep] at rv rw'
    exact ⟨_, _, by rw [rv, rw'], q B H _ (Nxt.refl e) hp (by simp only [Rep])⟩
  · cases hm
def cInt : List D → Mo D
  | [.int i] => retM (.int i)
  | [.bl b] => retM (.int (if b then 1 else 0))
  | _ => failM
theorem ca_int : CaD cs X (.type "int") cInt := by
  refine ⟨_, call_int1, fun ap B H p ds vs Q d p' e hp hb r hm q => ?_⟩
  unfold cInt at hm
  split at hm
  · cases hm
    obtain ⟨v, rfl, rv⟩ := reps1 r
    simp only [Rep] at rv
    exact .inl ⟨_, by rw [rv], q B H _ (Nxt.refl e) hp (by simp only [Rep])⟩
  · cases hm
    obtain ⟨v, rfl, rv⟩ := reps1 r
    simp only [Rep] at rv
    exact .inr ⟨_, by rw [rv], q B H _ (Nxt.refl e) hp (by simp only [Rep])⟩
  · cases hm
def cGcd : List D → Mo D
  | [.int i, .int j] => retM (.int ((Nat.gcd i.natAbs j.natAbs : Nat) : Int))
  | _ => failM
theorem ca_gcd : CaD cs X (.builtin "math.gcd") cGcd := by
  refine ⟨_, cr_gcd, fun ap B H p ds vs Q d p' e hp hb r hm q => ?_⟩
  unfold cGcd at hm
  split at hm
  · cases hm
    obtain ⟨v, w, rfl, rv, rw'⟩ := reps2 r
    simp only [Rep] at rv rw'
    exact ⟨_, _, by rw [rv, rw'], q B H _ (Nxt.refl e) hp (by simp only [Rep])⟩
  · cases hm
/-- the truths of a list of bools -/
def blsD : List D → Option (List Bool)
  | [] => some []
  | .bl b :: r => match blsD r with
    | some bs => some (b :: bs)
    | none => none
  | _ => none
theorem reps_bls {K : PySem.W.Frag} {ap : Addr} {B : Hp} : ∀ {ds : List D} {vs : List V} {bs : List Bool}, Reps K cs ap B ds vs → blsD ds = some bs → vs = bs.map V.bl
  | [], vs, bs, h, e => by
    simp only [Reps] at h
    cases e
    exact h
  | d :: ds, vs, bs, h, e => by
    simp only [Reps] at h
    obtain ⟨x, r, rfl, h1, h2⟩ := h
    cases d <;> first | (cases e; done) | skip
    rename_i b
    simp only [Rep] at h1
    unfold blsD at e
    cases z : blsD ds with
    | none => rw [z] at e; cases e
    | some cs' =>
      rw [z] at e
      cases e
      rw [h1, reps_bls h2 z]
      rfl
def cAll : List D → Mo D
  | [.lst ds] => match blsD ds with
    | some bs => retM (.bl (bs.all id))
    | none => failM
  | _ => failM
theorem ca_all (hc : X.calm = true) : CaD cs X (.builtin "all") cAll := by
  refine ⟨_, cr_all hc, fun ap B H p ds vs Q d p' e hp hb r hm q => ?_⟩
  unfold cAll at hm
  split at hm
  · rename_i ds
    cases z : blsD ds with
    | none => rw [z] at hm; cases hm
    | some bs =>
      rw [z] at hm
      cases hm
      obtain ⟨v, rfl, rv⟩ := reps1 r
      simp only [Rep] at rv
      obtain ⟨a, xs, rfl, h1, r1⟩ := rv
      rw [reps_bls r1 z] at h1
      exact ⟨a, bs, rfl, SqL.of (e _ _ h1), q B H _ (Nxt.refl e) hp (by simp only [Rep])⟩
  · cases hm
def cAny : List D → Mo D
  | [.lst ds] => match blsD ds with
    | some bs => retM (.bl (bs.any id))
    | none => failM
  | _ => failM
theorem ca_any (hc : X.calm = true) : CaD cs X (.builtin "any") cAny := by
  refine ⟨_, cr_any hc, fun ap B H p ds vs Q d p' e hp hb r hm q => ?_⟩
  unfold cAny at hm
  split at hm
  · rename_i ds
    cases z : blsD ds with
    | none => rw [z] at hm; cases hm
    | some bs =>
      rw [z] at hm
      cases hm
      obtain ⟨v, rfl, rv⟩ := reps1 r
      simp only [Rep] at rv
      obtain ⟨a, xs, rfl, h1, r1⟩ := rv
      rw [reps_bls r1 z] at h1
      exact ⟨a, bs, rfl, SqL.of (e _ _ h1), q B H _ (Nxt.refl e) hp (by simp only [Rep])⟩
  · cases hm
/-- list(x): a new list -/
def oListC : List D → Mo (List D)
  | [.lst ds] => retM ds
  | [.tup ds] => retM ds
  | _ => failM
theorem o_listOf {p : Pos} (hm : X.mg "list" = none) (ha : PAD cs X [e] m) (hg : Gl X "list" := by rfl) (he : starEach [e] X.env = (false, eval e X.env) :: starEach [] X.env := by rfl) : POD cs X (.Call (.Name "list" p) [e] [] pos) (mCallO oListC m) := by
  obtain ⟨ta, a1, a2⟩ := ha.ex
  refine ⟨_, pe_callTy call_list_of hg hm (by decide +kernel) a1 (by decide) (by decide) he, fun ap H0 B0 B σ env H p Q ds p' k hm q => ?_⟩
  obtain ⟨es, p1, e1, e2⟩ := bindM_some hm
  unfold oListC at e2
  split at e2
  · cases e2
    refine a2 ap H0 B0 B σ env H p _ _ p' k e1 fun B1 H1 vs n1 hp1 r1 => ?_
    obtain ⟨v, rfl, rv⟩ := reps1 r1
    simp only [Rep] at rv
    obtain ⟨a, xs, rfl, h1, r1⟩ := rv
    exact ⟨a, xs, rfl, .inl (SqL.of (n1.bh _ _ h1)), q.new n1 hp1 r1⟩
  · cases e2
    refine a2 ap H0 B0 B σ env H p _ _ p' k e1 fun B1 H1 vs n1 hp1 r1 => ?_
    obtain ⟨v, rfl, rv⟩ := reps1 r1
    simp only [Rep] at rv
    obtain ⟨a, xs, rfl, h1, r1⟩ := rv
    exact ⟨a, xs, rfl, .inr (Evl.ex_t n1.bh h1), q.new n1 hp1 r1⟩
  · cases e2
def cTup : List D → Mo D
  | [.lst ds] => retM (.tup ds)
  | [.tup ds] => retM (.tup ds)
  | _ => failM
theorem ca_tup : CaD cs X (.type "tuple") cTup := by
  refine ⟨_, call_tuple_of, fun ap B H p ds vs Q d p' e hp hb r hm q => ?_⟩
  unfold cTup at hm
  split at hm
  · cases hm
    obtain ⟨v, rfl, rv⟩ := reps1 r
    simp only [Rep] at rv
    obtain ⟨a, xs, rfl, h1, r1⟩ := rv
    exact ⟨a, xs, rfl, .inl ⟨SqL.of (e _ _ h1), q.newT e hp r1⟩⟩
  · cases hm
    obtain ⟨v, rfl, rv⟩ := reps1 r
    have rv' := rv
    simp only [Rep] at rv
    obtain ⟨a, xs, rfl, h1, r1⟩ := rv
    exact ⟨a, xs, rfl, .inr ⟨Evl.ex_t e h1, q B H _ (Nxt.refl e) hp rv'⟩⟩
  · cases hm
end
end DL
end

section
set_option Elab.async false
set_option linter.all false
set_option maxRecDepth 100000
set_option maxHeartbeats 4000000
/-! DL: what is only looked at, comprehensions, what is walked, own lists changed. -/
namespace DL
open PySem PySem.Spec PyProof.Rows L2
open Evl (Ex)

/-- a datum, or a list of the def's own that is looked at -/
def RepB (K : PySem.W.Frag) (cs : CT) (ap : Addr) (B H : Hp) (d : D) (v : V) : Prop := Rep K cs ap B d v ∨ ∃ ds a xs, d = .lst ds ∧ v = .ref a ∧ a ≠ ap ∧ H a = some (.lst xs) ∧ Reps K cs ap B ds xs
theorem RepB.nxt {K : PySem.W.Frag} {cs : CT} {ap : Addr} {B H B' H' : Hp} {d : D} {v : V} (r : RepB K cs ap B H d v) (n : Nxt ap B H B' H') : RepB K cs ap B' H' d v := by
  rcases r with r | ⟨ds, a, xs, rfl, rfl, ha, h, r⟩
  · exact .inl (r.mono n.bb)
  · exact .inr ⟨ds, a, xs, rfl, rfl, ha, n.fr _ _ h ha, r.mono n.bb⟩
/-- a list to be read -/
theorem RepB.lst {K : PySem.W.Frag} {cs : CT} {ap : Addr} {B H : Hp} {ds : List D} {v : V} (r : RepB K cs ap B H (.lst ds) v) (e : Ex B H) : ∃ a xs, v = .ref a ∧ H a = some (.lst xs) ∧ Reps K cs ap B ds xs := by
  rcases r with r | ⟨ds', a, xs, h, rfl, _, hh, r⟩
  · simp only [Rep] at r
    obtain ⟨a, xs, rfl, h1, h2⟩ := r
    exact ⟨a, xs, rfl, e _ _ h1, h2⟩
  · cases h
    exact ⟨a, xs, rfl, hh, r⟩
def KB (K : PySem.W.Frag) (cs : CT) (ap : Addr) (B H : Hp) (p' : Pt) (d : D) (Q : VK) : Prop := ∀ B' H' v, Nxt ap B H B' H' → PotAt ap H' p' → RepB K cs ap B' H' d v → Q v H'
def EvB (K : PySem.W.Frag) (cs : CT) (te : TE) (m : Env' → Mo D) : Prop := ∀ ap H0 B0 B σ env H p (Q : VK) d p', Ok K cs ap H0 B0 B σ env H p → m env p = some (d, p') → KB K cs ap B H p' d Q → te σ H Q
structure PBD (cs : CT) (X : Cx) (e : Expr) (m : Env' → Mo D) : Prop where
  ex : ∃ te, PE X e te ∧ EvB X.K cs te m
def mVarB (i : Nat) : Env' → Mo D := fun env => match env[i]? with
  | some (.val d) => retM d
  | some (.own ds) => retM (.lst ds)
  | _ => failM
section
variable {cs : CT} {X : Cx} {e a b : Expr} {es : List Expr} {m ma mb : Env' → Mo D} {pos : Pos}
theorem PED.bo (h : PED cs X e m) : PBD cs X e m := by
  obtain ⟨te, h1, h2⟩ := h.ex
  exact ⟨te, h1, fun ap H0 B0 B σ env H p Q d p' k hm q => h2 ap H0 B0 B σ env H p Q d p' k hm fun B' H' v n hp r => q B' H' v n hp (.inl r)⟩
theorem b_var (i : Nat) {x : Str} (hN : X.N[i]? = some x := by rfl) (hv : Vis X.env.scope x := by first | exact Or.inl rfl | exact Or.inr (Or.inl rfl) | exact Or.inr (Or.inr rfl)) (hd : (x == ("__debug__" : Str)) = false := by decide)
    (hcd : (x == ("__classdict__" : Str)) = false := by decide) : PBD cs X (.Name x pos) (mVarB i) := by
  refine ⟨tVar i, pe_var hN hv hd hcd, fun ap H0 B0 B σ env H p Q d p' k hm q => ?_⟩
  unfold mVarB at hm
  rcases g : env[i]? with _ | _ | d' | ds | _
  · rw [g] at hm; cases hm
  · rw [g] at hm; cases hm
  · rw [g] at hm
    cases hm
    obtain ⟨v, h1, h2⟩ := k.sl i _ g
    exact ⟨v, h1, q B H v (Nxt.refl k.bh) k.pot (.inl h2)⟩
  · rw [g] at hm
    cases hm
    obtain ⟨a, xs, h1, h2, h3, h4⟩ := k.sl i _ g
    exact ⟨.ref a, h1, q B H _ (Nxt.refl k.bh) k.pot (.inr ⟨ds, a, xs, rfl, rfl, fun z => k.hap (z ▸ k.ownNew i ds a g h1), h3, h4⟩)⟩
  · rw [g] at hm; cases hm
theorem ixB_ev {K : PySem.W.Frag} {ta tb : TE} (ha : EvB K cs ta ma) (hb : EvE K cs tb mb) : EvE K cs (tOp (rIx K) ta tb) (mBin atD ma mb) := by
  intro ap H0 B0 B σ env H p Q d p' k hm q
  obtain ⟨x, p1, e1, e2⟩ := bindM_some hm
  obtain ⟨y, p2, e3, e4⟩ := bindM_some e2
  refine ha ap H0 B0 B σ env H p _ x p1 k e1 fun B1 H1 v n1 hp1 r1 => ?_
  have k1 := k.nxt n1 hp1
  refine hb ap H0 B0 B1 σ env H1 p1 _ y p2 k1 e3 fun B2 H2 u n2 hp2 r2 => ?_
  have k2 := k1.nxt n2 hp2
  have r1' := r1.nxt n2
  unfold atD at e4
  split at e4
  · rename_i ds i
    cases hd : atI ds i with
    | none => rw [hd] at e4; cases e4
    | some d' =>
      rw [hd] at e4
      cases e4
      obtain ⟨l, xs, rfl, h1, rr⟩ := r1'.lst k2.bh
      simp only [Rep] at r2
      obtain ⟨w, g1, g2⟩ := reps_at rr hd
      exact .inl ⟨l, xs, i, w, rfl, r2, SqL.of h1, g1, q B2 H2 w (n1.trans n2) hp2 g2⟩
  · rename_i ds i
    cases hd : atI ds i with
    | none => rw [hd] at e4; cases e4
    | some d' =>
      rw [hd] at e4
      cases e4
      rcases r1' with rr | ⟨_, _, _, h, _⟩
      · simp only [Rep] at rr r2
        obtain ⟨l, xs, rfl, h1, rr⟩ := rr
        obtain ⟨w, g1, g2⟩ := reps_at rr hd
        exact .inr (.inl ⟨l, xs, i, w, rfl, r2, Evl.ex_t k2.bh h1, g1, q B2 H2 w (n1.trans n2) hp2 g2⟩)
      · cases h
  · cases e4
theorem p_ixB (ha : PBD cs X a ma) (hb : PED cs X b mb) (hs : PlainIx b := by exact fun _ _ => rfl) : PED cs X (.Subscript a b pos) (mBin atD ma mb) := by
  obtain ⟨ta, a1, a2⟩ := ha.ex
  obtain ⟨tb, b1, b2⟩ := hb.ex
  exact ⟨_, pe_ix ix_seq a1 b1 hs, ixB_ev a2 b2⟩
/-- len(..) of what is only looked at -/
def mLen (a : Env' → Mo D) : Env' → Mo D := fun env => bindM (a env) fun x => cLen [x]
theorem p_lenB {p : Pos} (hm : X.mg "len" = none) (ha : PBD cs X e ma) (hg : Gl X "len" := by rfl) (hs : starEach [e] X.env = (false, eval e X.env) :: starEach [] X.env := by rfl) : PED cs X (.Call (.Name "len" p) [e] [] pos) (mLen ma) := by
  obtain ⟨ta, a1, a2⟩ := ha.ex
  refine ⟨_, pe_callB call_len_seq hg hm (by decide +kernel) (L2.pa_cons a1 L2.pa_nil hs) (by decide) (by decide) hs, fun ap H0 B0 B σ env H p Q d p' k hm q => ?_⟩
  obtain ⟨x, p1, e1, e2⟩ := bindM_some hm
  refine a2 ap H0 B0 B σ env H p _ x p1 k e1 fun B1 H1 v n1 hp1 r1 => ?_
  have k1 := k.nxt n1 hp1
  cases x <;> first | (cases e2; done) | skip
  · cases e2
    obtain ⟨l, xs, rfl, h1, rr⟩ := r1.lst k1.bh
    exact ⟨l, xs, rfl, .inl (SqL.of h1), q B1 H1 _ n1 hp1 (by simp only [Rep, rr.length])⟩
  · cases e2
    rcases r1 with rr | ⟨_, _, _, h, _⟩
    · simp only [Rep] at rr
      obtain ⟨l, xs, rfl, h1, rr⟩ := rr
      exact ⟨l, xs, rfl, .inr (Evl.ex_t k1.bh h1), q B1 H1 _ n1 hp1 (by simp only [Rep, rr.length])⟩
    · cases h
theorem oSliceB {lo hi : Option Expr} {p2 : Pos} {ml mh : Env' → Mo (Option Int)} (ha : PBD cs X a ma) (hl : POx cs X lo ml) (hh : POx cs X hi mh) : POD cs X (.Subscript a (.Slice lo hi none p2) pos) (oSlice ma ml mh) := by
  obtain ⟨ta, a1, a2⟩ := ha.ex
  obtain ⟨tl, l1, l2⟩ := hl.ex
  obtain ⟨th, u1, u2⟩ := hh.ex
  refine ⟨_, pe_slice sl_list a1 l1 u1, fun ap H0 B0 B σ env H p Q ds p' k hm q => ?_⟩
  obtain ⟨x, p1, e1, e2⟩ := bindM_some hm
  obtain ⟨l, p2, e3, e4⟩ := bindM_some e2
  obtain ⟨u, p3, e5, e6⟩ := bindM_some e4
  split at e6
  · rename_i es
    cases e6
    refine a2 ap H0 B0 B σ env H p _ _ p1 k e1 fun B1 H1 v n1 hp1 r1 => ?_
    have k1 := k.nxt n1 hp1
    refine l2 ap H0 B0 B1 σ env H1 p1 _ _ p2 k1 e3 fun B2 H2 n2 hp2 => ?_
    have k2 := k1.nxt n2 hp2
    refine u2 ap H0 B0 B2 σ env H2 p2 _ _ p' k2 e5 fun B3 H3 n3 hp3 => ?_
    have n23 := n2.trans n3
    obtain ⟨t, xs, rfl, h1, rr⟩ := (r1.nxt n23).lst n23.bh
    exact ⟨t, xs, rfl, SqL.of h1, q.new (n1.trans n23) hp3 (cut_eq rr l u)⟩
  · cases e6
theorem oRevB {k1 : Nat} {p1 p2 p3 : Pos} (ha : PBD cs X a ma) : POD cs X (.Subscript a (.Slice none none (some (.UnaryOp .USub (.Constant (.int 1) k1 p1) p2)) p3) pos) (oRev ma) := by
  obtain ⟨ta, a1, a2⟩ := ha.ex
  refine ⟨_, pe_revL a1, fun ap H0 B0 B σ env H p Q ds p' k hm q => ?_⟩
  obtain ⟨x, p4, e1, e2⟩ := bindM_some hm
  split at e2
  · rename_i es
    cases e2
    refine a2 ap H0 B0 B σ env H p _ _ p' k e1 fun B1 H1 v n1 hp1 r1 => ?_
    obtain ⟨t, xs, rfl, h1, rr⟩ := r1.lst n1.bh
    exact ⟨t, xs, rfl, SqL.of h1, q.new n1 hp1 rr.reverse⟩
  · cases e2

/-! ### what is walked -/
def srcL (a : Env' → Mo D) : Env' → Mo (List D) := fun env => bindM (a env) fun x => match x with
  | .lst ds => retM ds
  | _ => failM
theorem wk_list {K : PySem.W.Frag} {ap : Addr} {B H : Hp} {t : Addr} {xs : List V} {ds : List D} (h : H t = some (.lst xs)) (r : Reps K cs ap B ds xs) (e : Ex B H) : Wk K cs ap (Itl K t) ds B H := by
  intro i
  refine ⟨fun d hd => ?_, fun hi => ⟨xs, SqL.of h, by rw [r.length]; exact hi⟩⟩
  obtain ⟨x, hx, rx⟩ := r.get hd
  refine ⟨⟨xs, x, SqL.of h, hx⟩, fun y H' hy => ?_⟩
  obtain ⟨rfl, hy⟩ := hy
  have h2 := hy xs (SqL.of h)
  rw [hx] at h2
  cases h2
  exact ⟨B, Nxt.refl e, fun _ => rfl, rx⟩
theorem i_list {tg : Expr} (h : PED cs X e ma) : PID cs X tg e (srcL ma) := by
  obtain ⟨te, h1, h2⟩ := h.ex
  refine ⟨_, pi_list h1, fun ap H0 B0 B σ env H p R ds p' k hm q => ?_⟩
  obtain ⟨x, p1, e1, e2⟩ := bindM_some hm
  cases x <;> first | (cases e2; done) | skip
  cases e2
  refine h2 ap H0 B0 B σ env H p _ _ p' k e1 fun B1 H1 v n1 hp1 r1 => ?_
  simp only [Rep] at r1
  obtain ⟨t, xs, rfl, h3, rr⟩ := r1
  exact ⟨t, rfl, ⟨xs, SqL.of (n1.bh _ _ h3)⟩, q B1 H1 _ n1 hp1 fun B2 H2 b1 b2 => wk_list (b2 _ _ (b1 _ _ h3)) (rr.mono b1) b2⟩
theorem j_list {tg : Expr} (h : PBD cs X e ma) : PJD cs X tg e (srcL ma) := by
  obtain ⟨te, h1, h2⟩ := h.ex
  refine ⟨_, pi_list h1, fun ap H0 B0 B σ env H p R ds p' k hm q => ?_⟩
  obtain ⟨x, p1, e1, e2⟩ := bindM_some hm
  cases x <;> first | (cases e2; done) | skip
  cases e2
  refine h2 ap H0 B0 B σ env H p _ _ p' k e1 fun B1 H1 v n1 hp1 r1 => ?_
  obtain ⟨t, xs, rfl, h3, rr⟩ := r1.lst n1.bh
  refine ⟨t, rfl, ⟨xs, SqL.of h3⟩, q B1 H1 _ n1 hp1 fun B2 H2 n2 => ?_⟩
  obtain ⟨t', xs', e5, h5, rr'⟩ := (r1.nxt n2).lst n2.bh
  cases e5
  exact wk_list h5 rr' n2.bh
def srcT (a : Env' → Mo D) : Env' → Mo (List D) := fun env => bindM (a env) fun x => match x with
  | .tup ds => retM ds
  | _ => failM
theorem wk_tup' {K : PySem.W.Frag} {ap : Addr} {B H : Hp} {t : Addr} {xs : List V} {ds : List D} {pins : List (Addr × Obj)} (h : SqT K H t xs) (hi : ∀ ys, SqT K H t ys → ys = xs) (r : Reps K cs ap B ds xs) (e : Ex B H) : Wk K cs ap (Itt K t) ds B H := by
  intro i
  refine ⟨fun d hd => ?_, fun hi => ⟨xs, h, by rw [r.length]; exact hi⟩⟩
  obtain ⟨x, hx, rx⟩ := r.get hd
  refine ⟨⟨xs, x, h, hx⟩, fun y H' hy => ?_⟩
  obtain ⟨rfl, hy⟩ := hy
  have h2 := hy xs h
  rw [hx] at h2
  cases h2
  exact ⟨B, Nxt.refl e, fun _ => rfl, rx⟩
theorem i_tup {tg : Expr} (h : PED cs X e ma) : PID cs X tg e (srcT ma) := by
  obtain ⟨te, h1, h2⟩ := h.ex
  refine ⟨_, pi_tup h1, fun ap H0 B0 B σ env H p R ds p' k hm q => ?_⟩
  obtain ⟨x, p1, e1, e2⟩ := bindM_some hm
  have fin : ∀ {B1 H1 : Hp} {t : Addr} {xs : List V} {ds : List D}, SqT X.K B1 t xs → Reps X.K cs ap B1 ds xs → ∀ B2 H2, Ex B1 B2 → Ex B2 H2 → Wk X.K cs ap (Itt X.K t) ds B2 H2 := by
    intro B1 H1 t xs ds h3 rr B2 H2 b1 b2 i
    have h4 : SqT X.K H2 t xs := Evl.ex_t b2 (Evl.ex_t b1 h3)
    refine ⟨fun d hd => ?_, fun hi => ⟨xs, h4, by rw [rr.length]; exact hi⟩⟩
    obtain ⟨x, hx, rx⟩ := rr.get hd
    refine ⟨⟨xs, x, h4, hx⟩, fun y H' hy => ?_⟩
    obtain ⟨rfl, hy⟩ := hy
    have h2 := hy xs h4
    rw [hx] at h2
    cases h2
    exact ⟨B2, Nxt.refl b2, fun _ => rfl, rx.mono b1⟩
  cases x <;> first | (cases e2; done) | skip
  · cases e2
    refine h2 ap H0 B0 B σ env H p _ _ p' k e1 fun B1 H1 v n1 hp1 r1 => ?_
    simp only [Rep] at r1
    obtain ⟨t, xs, rfl, h3, rr⟩ := r1
    exact ⟨t, rfl, ⟨xs, Evl.ex_t n1.bh h3⟩, q B1 H1 _ n1 hp1 (fin (H1 := H1) h3 rr)⟩
/-- lo, lo + 1, .. -/
def rngD (lo : Int) (n : Nat) : List D := (List.range n).map fun i => .int (lo + (i : Nat))
theorem wk_range {K : PySem.W.Frag} {ap : Addr} {B H : Hp} {lo : Int} {n : Nat} (e : Ex B H) : Wk K cs ap (Itr lo n) (rngD lo n) B H := by
  intro i
  refine ⟨fun d hd => ?_, fun hi => by unfold rngD at hi; rw [List.length_map, List.length_range] at hi; exact hi⟩
  have hlt : i < n := by
    have h := (List.getElem?_eq_some_iff.mp hd).1
    unfold rngD at h
    rw [List.length_map, List.length_range] at h
    exact h
  unfold rngD at hd
  rw [List.getElem?_map, List.getElem?_range hlt] at hd
  cases hd
  exact ⟨hlt, fun y H' hy => ⟨B, by rw [hy.1]; exact Nxt.refl e, fun _ => by rw [hy.1], by rw [hy.2]; simp only [Rep]⟩⟩
def srcR1 (m : Env' → Mo (List D)) : Env' → Mo (List D) := fun env => bindM (m env) fun ds => match ds with
  | [.int n] => if -1000000 ≤ n ∧ n ≤ 1000000 then retM (rngD 0 n.toNat) else failM
  | _ => failM
def srcR2 (m : Env' → Mo (List D)) : Env' → Mo (List D) := fun env => bindM (m env) fun ds => match ds with
  | [.int i, .int n] => if -1000000 ≤ n ∧ n ≤ 1000000 ∧ -1000000 ≤ i ∧ i ≤ 1000000 then retM (rngD i (n - i).toNat) else failM
  | _ => failM
variable {mm : Env' → Mo (List D)}
theorem i_range1 {tg : Expr} {p : Pos} (hm : X.mg "range" = none) (ha : PAD cs X [a] mm) (hg : Gl X "range" := by rfl) (hs : starEach [a] X.env = [(false, eval a X.env)] := by rfl) : PID cs X tg (.Call (.Name "range" p) [a] [] pos) (srcR1 mm) := by
  obtain ⟨te, h1, h2⟩ := ha.ex
  refine ⟨_, pi_range1 hg hm h1 hs, fun ap H0 B0 B σ env H p R ds p' k hm q => ?_⟩
  obtain ⟨x, p1, e1, e2⟩ := bindM_some hm
  split at e2
  · split at e2
    · rename_i n hn
      cases e2
      refine h2 ap H0 B0 B σ env H p _ _ p' k e1 fun B1 H1 vs n1 hp1 r1 => ?_
      obtain ⟨v, rfl, rv⟩ := reps1 r1
      simp only [Rep] at rv
      exact ⟨n, by rw [rv], by omega, by omega, q B1 H1 _ n1 hp1 fun B2 H2 b1 b2 => wk_range b2⟩
    · cases e2
  · cases e2
theorem i_range2 {tg : Expr} {p : Pos} (hm : X.mg "range" = none) (ha : PAD cs X [a, b] mm) (hg : Gl X "range" := by rfl) (hs : starEach [a, b] X.env = [(false, eval a X.env), (false, eval b X.env)] := by rfl) (hs2 : starEach [b] X.env = [(false, eval b X.env)] := by rfl) : PID cs X tg (.Call (.Name "range" p) [a, b] [] pos) (srcR2 mm) := by
  obtain ⟨te, h1, h2⟩ := ha.ex
  refine ⟨_, pi_range2 hg hm h1 hs hs2, fun ap H0 B0 B σ env H p R ds p' k hm q => ?_⟩
  obtain ⟨x, p1, e1, e2⟩ := bindM_some hm
  split at e2
  · split at e2
    · rename_i i n hn
      cases e2
      refine h2 ap H0 B0 B σ env H p _ _ p' k e1 fun B1 H1 vs n1 hp1 r1 => ?_
      obtain ⟨v, w, rfl, rv, rw'⟩ := reps2 r1
      simp only [Rep] at rv rw'
      exact ⟨i, n, by rw [rv, rw'], ⟨by omega, by omega, by omega, by omega⟩, q B1 H1 _ n1 hp1 fun B2 H2 b1 b2 => wk_range b2⟩
    · cases e2
  · cases e2
/-- the pairs of place and item -/
def enumD : Nat → List D → List D
  | _, [] => []
  | i, d :: ds => .tup [.int (i : Nat), d] :: enumD (i + 1) ds
theorem enumD_length : ∀ (i : Nat) (ds : List D), (enumD i ds).length = ds.length
  | _, [] => rfl
  | i, d :: ds => by unfold enumD; rw [List.length_cons, List.length_cons, enumD_length]
theorem enumD_get : ∀ (j i : Nat) (ds : List D) (d : D), (enumD j ds)[i]? = some d → ∃ c, ds[i]? = some c ∧ d = .tup [.int ((j + i : Nat) : Int), c]
  | _, _, [], _, h => by simp [enumD] at h
  | j, 0, c :: ds, d, h => by simp [enumD] at h; exact ⟨c, rfl, by rw [← h]; rfl⟩
  | j, i + 1, c :: ds, d, h => by
    simp [enumD] at h
    obtain ⟨c', h1, h2⟩ := enumD_get (j + 1) i ds d h
    exact ⟨c', by simpa using h1, by rw [h2]; congr 4; omega⟩
theorem wk_enum {K : PySem.W.Frag} {ap : Addr} {B H : Hp} {t : Addr} {xs : List V} {ds : List D} (h : H t = some (.lst xs)) (r : Reps K cs ap B ds xs) (e : Ex B H) : Wk K cs ap (Ite K t) (enumD 0 ds) B H := by
  intro i
  refine ⟨fun d hd => ?_, fun hi => ⟨xs, SqL.of h, by rw [r.length]; rw [enumD_length] at hi; exact hi⟩⟩
  obtain ⟨c, hc, rfl⟩ := enumD_get 0 i ds d hd
  obtain ⟨x, hx, rx⟩ := r.get hc
  refine ⟨⟨xs, x, SqL.of h, hx⟩, fun y H' hy => ?_⟩
  obtain ⟨T, x', rfl, hT, rfl, hy⟩ := hy
  have h2 := hy xs (SqL.of h)
  rw [hx] at h2
  cases h2
  have n : Nxt ap B H _ _ := Nxt.new (o := .tup [.int (i : Nat), x]) e hT
  refine ⟨_, n, fun ha => ?_, ?_⟩
  · rw [upd_ne (fun z => ha (by rw [z]; exact hT))]
  · simp only [Rep]
    exact ⟨T, _, rfl, SqT.of upd_same, reps_cons (by simp only [Rep]; rw [Nat.zero_add]) (reps_cons (rx.mono n.bb) reps_nil)⟩
def srcE (m : Env' → Mo (List D)) : Env' → Mo (List D) := fun env => bindM (m env) fun ds => match ds with
  | [.lst ds] => retM (enumD 0 ds)
  | _ => failM
theorem i_enum {p tpos : Pos} {elts : List Expr} {kk : Nat} (hm : X.mg "enumerate" = none) (ha : PAD cs X [e] mm) (hg : Gl X "enumerate" := by rfl) (hs : starEach [e] X.env = [(false, eval e X.env)] := by rfl) : PID cs X (.Tuple elts kk tpos) (.Call (.Name "enumerate" p) [e] [] pos) (srcE mm) := by
  obtain ⟨te, h1, h2⟩ := ha.ex
  refine ⟨_, pi_enum hg hm h1 hs, fun ap H0 B0 B σ env H p R ds p' k hm q => ?_⟩
  obtain ⟨x, p1, e1, e2⟩ := bindM_some hm
  split at e2
  · cases e2
    refine h2 ap H0 B0 B σ env H p _ _ p' k e1 fun B1 H1 vs n1 hp1 r1 => ?_
    obtain ⟨v, rfl, rv⟩ := reps1 r1
    simp only [Rep] at rv
    obtain ⟨t, xs, rfl, h3, rr⟩ := rv
    exact ⟨t, xs, rfl, SqL.of (n1.bh _ _ h3), q B1 H1 _ n1 hp1 fun B2 H2 b1 b2 => wk_enum (b2 _ _ (b1 _ _ h3)) (rr.mono b1) b2⟩
  · cases e2
/-- the pairs of items -/
def zipD : List D → List D → List D
  | d :: ds, c :: cs => .tup [d, c] :: zipD ds cs
  | _, _ => []
theorem zipD_length : ∀ (ds es : List D), (zipD ds es).length = min ds.length es.length
  | [], es => by simp [zipD]
  | d :: ds, [] => by simp [zipD]
  | d :: ds, c :: es => by simp only [zipD, List.length_cons, zipD_length ds es]; omega
theorem zipD_get : ∀ (i : Nat) (ds es : List D) (d : D), (zipD ds es)[i]? = some d → ∃ c c', ds[i]? = some c ∧ es[i]? = some c' ∧ d = .tup [c, c']
  | _, [], _, _, h => by simp [zipD] at h
  | _, _ :: _, [], _, h => by simp [zipD] at h
  | 0, c :: ds, c' :: es, d, h => by simp [zipD] at h; exact ⟨c, c', rfl, rfl, h.symm⟩
  | i + 1, c :: ds, c' :: es, d, h => by
    simp [zipD] at h
    obtain ⟨a, b, h1, h2, h3⟩ := zipD_get i ds es d h
    exact ⟨a, b, by simpa using h1, by simpa using h2, h3⟩
def srcZ (m : Env' → Mo (List D)) : Env' → Mo (List D) := fun env => bindM (m env) fun ds => match ds with
  | [.lst ds, .lst es] => retM (zipD ds es)
  | _ => failM
theorem i_zip {e2 : Expr} {p tpos : Pos} {elts : List Expr} {kk : Nat} (hm : X.mg "zip" = none) (ha : PAD cs X [e, e2] mm) (hg : Gl X "zip" := by rfl) (hs : starEach [e, e2] X.env = (false, eval e X.env) :: starEach [e2] X.env := by rfl) (hpl : (backTo pos (starEach [e2] X.env)).any (·.1) = false := by rfl) :
    PID cs X (.Tuple elts kk tpos) (.Call (.Name "zip" p) [e, e2] [] pos) (srcZ mm) := by
  obtain ⟨te, h1, h2⟩ := ha.ex
  refine ⟨_, pi_zip hg hm h1 hs hpl, fun ap H0 B0 B σ env H p R ds p' k hm q => ?_⟩
  obtain ⟨x, p1, e1, e2⟩ := bindM_some hm
  split at e2
  · cases e2
    refine h2 ap H0 B0 B σ env H p _ _ p' k e1 fun B1 H1 vs n1 hp1 r1 => ?_
    obtain ⟨v, w, rfl, rv, rw'⟩ := reps2 r1
    simp only [Rep] at rv rw'
    obtain ⟨t, xs, rfl, h3, rr⟩ := rv
    obtain ⟨t', ys, rfl, h3', rr'⟩ := rw'
    refine ⟨t, t', xs, ys, rfl, SqL.of (n1.bh _ _ h3), SqL.of (n1.bh _ _ h3'), q B1 H1 _ n1 hp1 fun B2 H2 b1 b2 i => ?_⟩
    have g1 := b2 _ _ (b1 _ _ h3)
    have g2 := b2 _ _ (b1 _ _ h3')
    have r2 := rr.mono b1
    have r2' := rr'.mono b1
    refine ⟨fun d hd => ?_, fun hi => ⟨xs, ys, SqL.of g1, SqL.of g2, by rw [zipD_length] at hi; rw [rr.length, rr'.length]; omega⟩⟩
    obtain ⟨c, c', hc, hc', rfl⟩ := zipD_get i _ _ d hd
    obtain ⟨x, hx, rx⟩ := r2.get hc
    obtain ⟨y, hy, ry⟩ := r2'.get hc'
    refine ⟨⟨xs, ys, x, y, SqL.of g1, SqL.of g2, hx, hy⟩, fun z H' hz => ?_⟩
    obtain ⟨T, x', y', rfl, hT, rfl, hz1, hz2⟩ := hz
    have q1 := hz1 xs (SqL.of g1)
    have q2 := hz2 ys (SqL.of g2)
    rw [hx] at q1
    rw [hy] at q2
    cases q1
    cases q2
    have n : Nxt ap B2 H2 _ _ := Nxt.new (o := .tup [x, y]) b2 hT
    refine ⟨_, n, fun ha => by rw [upd_ne (fun z => ha (by rw [z]; exact hT))], ?_⟩
    simp only [Rep]
    exact ⟨T, _, rfl, SqT.of upd_same, reps_cons (rx.mono n.bb) (reps_cons (ry.mono n.bb) reps_nil)⟩
  · cases e2
end
end DL
end

section
set_option Elab.async false
set_option linter.all false
set_option maxRecDepth 100000
set_option maxHeartbeats 4000000
/-! DL: comprehensions, own lists changed, new lists handed back. -/
namespace DL
open PySem PySem.Spec PyProof.Rows L2
open Evl (Ex)

/-- the readings that the denotations give -/
def tED (K : PySem.W.Frag) (cs : CT) (m : Env' → Mo D) : TE := fun σ H Q => ∃ ap H0 B0 B env p d p', Ok K cs ap H0 B0 B σ env H p ∧ m env p = some (d, p') ∧ KE K cs ap B H p' d Q
def tTD (K : PySem.W.Frag) (cs : CT) (m : Env' → Mo Bool) : TT := fun σ H Q => ∃ ap H0 B0 B env p d p', Ok K cs ap H0 B0 B σ env H p ∧ m env p = some (d, p') ∧ KT ap B H p' d Q
def tGD (K : PySem.W.Frag) (cs : CT) (sl : List Nat) (m : MG) : TG := fun v σ H Q => ∃ ap H0 B0 B env p d env', Ok K cs ap H0 B0 B σ env H p ∧ Rep K cs ap B d v ∧ m d env = some env' ∧ ∀ σ', Ok K cs ap H0 B0 B σ' env' H p → Agr sl σ σ' → Q σ' H
section
variable {cs : CT} {X : Cx} {e a b : Expr} {es : List Expr} {m ma mb : Env' → Mo D} {pos : Pos}
theorem PED.rd (h : PED cs X e m) : PE X e (tED X.K cs m) := by
  obtain ⟨te, h1, h2⟩ := h.ex
  exact ⟨fun pins s σ H Q I ⟨ap, H0, B0, B, env, p, d, p', k, hm, q⟩ => h1.run pins s σ H Q I (h2 ap H0 B0 B σ env H p Q d p' k hm q)⟩
theorem PTD.rd {m : Env' → Mo Bool} (h : PTD cs X e m) : PT X e (tTD X.K cs m) := by
  obtain ⟨te, h1, h2⟩ := h.ex
  exact ⟨fun pins s σ H Q I ⟨ap, H0, B0, B, env, p, d, p', k, hm, q⟩ => h1.run pins s σ H Q I (h2 ap H0 B0 B σ env H p Q d p' k hm q)⟩
theorem PGD.rd {sl : List Nat} {m : MG} (h : PGD cs X e sl m) : PG X e (tGD X.K cs sl m) := by
  obtain ⟨g, h1, h2⟩ := h.ex
  exact ⟨fun pins s σ H v u Q I r ⟨ap, H0, B0, B, env, p, d, env', k, rv, hm, q⟩ => h1.run pins s σ H v u Q I r (h2 ap H0 B0 B σ env H p Q d v env' k rv hm q)⟩

/-! ### slots wiped -/
def wipeE (env : Env') : List Nat → Env'
  | [] => env
  | v :: vs => (wipeE env vs).set v .un
theorem Ok.wipe {K : PySem.W.Frag} {ap : Addr} {H0 B0 B H : Hp} {σ : L2.St} {env : Env'} {p : Pt} (k : Ok K cs ap H0 B0 B σ env H p) : ∀ vs : List Nat, Ok K cs ap H0 B0 B (L2.wipe σ vs) (wipeE env vs) H p
  | [] => k
  | v :: vs => by
    have k1 := Ok.wipe k vs
    unfold L2.wipe wipeE
    by_cases hi : v < (wipeE env vs).length
    · exact k1.setp hi trivial rfl
    · have h1 : (wipeE env vs).length ≤ v := by omega
      have h2 : (L2.wipe σ vs).length ≤ v := by rw [k1.len]; exact h1
      rw [List.set_eq_of_length_le h1, List.set_eq_of_length_le h2]; exact k1
theorem wipe_in {σ : L2.St} {i : Nat} : ∀ {vs : List Nat}, i ∈ vs → (L2.wipe σ vs)[i]? = if i < σ.length then some none else none
  | v :: vs, h => by
    unfold L2.wipe
    by_cases e : v = i
    · subst e
      by_cases hl : v < σ.length
      · rw [if_pos hl, List.getElem?_set_self (by rw [wipe_length]; exact hl)]
      · rw [if_neg hl, List.getElem?_eq_none (by rw [List.length_set, wipe_length]; omega)]
    · rw [List.getElem?_set_ne e]
      exact wipe_in ((List.mem_cons.mp h).resolve_left fun z => e z.symm)
theorem wipe_agr {σ σ' : L2.St} {sl vs : List Nat} (g : Agr sl (L2.wipe σ vs) σ') (h : ∀ i ∈ sl, i ∈ vs) : L2.wipe σ' vs = L2.wipe σ vs := by
  apply List.ext_getElem?
  intro i
  have hl : σ'.length = σ.length := by rw [g.1, wipe_length]
  by_cases hi : i ∈ vs
  · rw [wipe_in hi, wipe_in hi, hl]
  · rw [wipe_out hi, g.2 i fun z => hi (h i z)]

/-! ### comprehensions -/
def compM (g : MG) (t : Env' → Mo Bool) (e : Env' → Mo D) (env : Env') : List D → Mo (List D)
  | [] => retM []
  | d :: ds => match g d env with
    | none => failM
    | some env1 => bindM (t env1) fun b => if b = true then bindM (e env1) fun y => bindM (compM g t e env ds) fun ys => retM (y :: ys) else compM g t e env ds
def mYes : Env' → Mo Bool := fun _ => retM true
def mLc (src : Env' → Mo (List D)) (vs : List Nat) (g : MG) (t : Env' → Mo Bool) (e : Env' → Mo D) : Env' → Mo (List D) := fun env => bindM (src env) fun ds => if ds.length ≤ 100000 then compM g t e (wipeE env vs) ds else failM
theorem compM_len {g : MG} {t : Env' → Mo Bool} {e : Env' → Mo D} {env : Env'} : ∀ {ds : List D} {p p' : Pt} {ys : List D}, compM g t e env ds p = some (ys, p') → ys.length ≤ ds.length
  | [], _, _, _, h => by cases h; exact Nat.le_refl _
  | d :: ds, p, p', ys, h => by
    unfold compM at h
    cases hg : g d env with
    | none => rw [hg] at h; cases h
    | some env1 =>
      rw [hg] at h
      obtain ⟨b, p1, e1, e2⟩ := bindM_some (m := t env1) h
      cases b with
      | true =>
        rw [if_pos rfl] at e2
        obtain ⟨y, p2, e3, e4⟩ := bindM_some e2
        obtain ⟨zs, p3, e5, e6⟩ := bindM_some e4
        cases e6
        have := compM_len e5
        simp only [List.length_cons]; omega
      | false =>
        rw [if_neg (by decide)] at e2
        have := compM_len e2
        simp only [List.length_cons]; omega
structure PTsD (cs : CT) (X : Cx) (ifs : List Expr) (m : Env' → Mo Bool) : Prop where
  rd : PTs X ifs (tTD X.K cs m)
theorem ts_nil : PTsD cs X [] mYes := ⟨⟨fun pins s σ H Q I ⟨ap, H0, B0, B, env, p, d, p', k, hm, q⟩ => by
  cases hm
  exact pts_nil.run pins s σ H Q I (q B H (Nxt.refl k.bh) k.pot)⟩⟩
theorem ts_one {m : Env' → Mo Bool} (h : PTD cs X e m) : PTsD cs X [e] m := ⟨pts_one h.rd⟩
theorem lc_ev {K : PySem.W.Frag} {wi : TI} {msrc : Env' → Mo (List D)} {mg : MG} {mt : Env' → Mo Bool} {me : Env' → Mo D} {sl vs : List Nat} (hi : EvJ K cs wi msrc) (hsl : ∀ i ∈ sl, i ∈ vs) :
    EvO K cs (tLc wi (tGD K cs sl mg) (tTD K cs mt) (tED K cs me) vs) (mLc msrc vs mg mt me) := by
  intro ap H0 B0 B σ env H p Q out p' k hm q
  obtain ⟨ds, p1, e1, e2⟩ := bindM_some hm
  split at e2
  case isFalse => cases e2
  rename_i hsz
  refine hi ap H0 B0 B σ env H p _ ds p1 k e1 fun B1 H1 J n1 hp1 wk Da hD => ?_
  have k1 := (k.nxt n1 hp1).wipe vs
  have bD : B1 Da = none := Evl.fresh_back n1.bh hD
  have Dap : Da ≠ ap := fun z => by rw [z] at hD; unfold PotAt at hp1; rw [hD] at hp1; cases hp1
  have hD0 : H Da = none := by
    cases z : H Da with
    | none => rfl
    | some o => exact absurd hD (n1.nn Da (by rw [z]; exact fun y => nomatch y))
  refine ⟨fun i m H' => m = ds.length - i ∧ ∃ B2 p2 acc accV ys, Nxt ap B1 H1 B2 H' ∧ PotAt ap H' p2 ∧ H' Da = some (.lst accV) ∧ B2 Da = none ∧ Reps K cs ap B2 acc accV ∧ accV.length ≤ i ∧
      compM mg mt me (wipeE env vs) (ds.drop i) p2 = some (ys, p') ∧ out = acc ++ ys,
    ⟨_, rfl, B1, p1, [], [], out, Nxt.newU n1.bh hD, hp1.new hD, upd_same, bD, reps_nil, Nat.le_refl _, e2, rfl⟩, ?_⟩
  rintro i mm H' ⟨rfl, B2, p2, acc, accV, ys, n2, hp2, hDl, hBD, ra, hal, hc, rfl⟩
  have wki := wk B2 H' n2 i
  by_cases hlt : i < ds.length
  · right
    obtain ⟨d, hd⟩ : ∃ d, ds[i]? = some d := ⟨ds[i], List.getElem?_eq_getElem hlt⟩
    obtain ⟨hgo, hy⟩ := wki.1 d hd
    refine ⟨hgo, ?_⟩
    have hdr : ds.drop i = d :: ds.drop (i + 1) := by
      rw [List.drop_eq_getElem_cons hlt]
      rw [List.getElem?_eq_getElem hlt] at hd
      rw [Option.some.inj hd]
    rw [hdr] at hc
    unfold compM at hc
    cases hg : mg d (wipeE env vs) with
    | none => rw [hg] at hc; cases hc
    | some env1 =>
      rw [hg] at hc
      obtain ⟨tb, p3, e3, e4⟩ := bindM_some (m := mt env1) hc
      refine ⟨fun H' => ∃ B2 p2 acc' accV ys', Nxt ap B1 H1 B2 H' ∧ PotAt ap H' p2 ∧ H' Da = some (.lst accV) ∧ B2 Da = none ∧ Reps K cs ap B2 acc' accV ∧ accV.length ≤ i + 1 ∧
          compM mg mt me (wipeE env vs) (ds.drop (i + 1)) p2 = some (ys', p') ∧ acc ++ ys = acc' ++ ys',
        fun H' ⟨B2, p2, acc', accV, ys', h1, h2, h3, h4, h5, h6, h7, h8⟩ => ⟨ds.length - (i + 1), by omega, rfl, B2, p2, acc', accV, ys', h1, h2, h3, h4, h5, h6, h7, h8⟩, fun x H3 hyl => ?_⟩
      obtain ⟨B3, n3, hap, r3⟩ := hy x H3 hyl
      have hp3 : PotAt ap H3 p2 := by
        unfold PotAt
        rw [hap (by rw [show H' ap = _ from hp2]; exact (fun z => nomatch z))]
        exact hp2
      have n13 := n2.trans n3
      have k3 := (k1.nxt n2 hp2).nxt n3 hp3
      have hD3 : H3 Da = some (.lst accV) := n3.fr _ _ hDl Dap
      have hB3 : B3 Da = none := n3.nw _ (by rw [hDl]; exact (fun z => nomatch z)) hBD
      refine ⟨ap, H0, B0, B3, wipeE env vs, p2, d, env1, k3, r3, hg, fun σ2 k4 ag => ⟨wipe_agr ag hsl, ap, H0, B0, B3, env1, p2, tb, p3, k4, e3, fun B5 H5 n5 hp5 => ?_⟩⟩
      have k5 := k4.nxt n5 hp5
      have n15 := n13.trans n5
      have hD5 : H5 Da = some (.lst accV) := n5.fr _ _ hD3 Dap
      have hB5 : B5 Da = none := n5.nw _ (by rw [hD3]; exact (fun z => nomatch z)) hB3
      cases tb with
      | false =>
        dsimp only
        rw [if_neg (by decide)] at e4 ⊢
        exact ⟨B5, p3, acc, accV, ys, n15, hp5, hD5, hB5, ra.mono (n3.bb.trans n5.bb), by omega, e4, rfl⟩
      | true =>
        dsimp only
        rw [if_pos rfl] at e4 ⊢
        obtain ⟨y, p6, e5, e6⟩ := bindM_some e4
        obtain ⟨zs, p7, e7, e8⟩ := bindM_some e6
        cases e8
        refine ⟨ap, H0, B0, B5, env1, p3, y, p6, k5, e5, fun B6 H6 v n6 hp6 r6 => ?_⟩
        have n16 := n15.trans n6
        have hD6 : H6 Da = some (.lst accV) := n6.fr _ _ hD5 Dap
        have hB6 : B6 Da = none := n6.nw _ (by rw [hD5]; exact (fun z => nomatch z)) hB5
        refine ⟨accV, hD6, Nat.lt_of_le_of_lt hal (Nat.lt_of_lt_of_le (Nat.lt_of_lt_of_le hlt hsz) (by rw [sizeLine_eq]; decide)), B6, p6, acc ++ [y], accV ++ [v], zs, ?_, ?_, upd_same, hB6, (ra.mono ((n3.bb.trans n5.bb).trans n6.bb)).append (reps_cons r6 reps_nil), by simp; omega, e7, by simp⟩
        · refine ⟨n16.bb, fun a o h => ?_, n16.nw, fun a o h ha => ?_, fun a h => ?_⟩
          · have e9 : a ≠ Da := fun z => by rw [z, hB6] at h; cases h
            rw [upd_ne e9]; exact n16.bh _ _ h
          · have e9 : a ≠ Da := fun z => by rw [z, hD] at h; cases h
            rw [upd_ne e9]; exact n16.fr a o h ha
          · have e9 : a ≠ Da := fun z => h (by rw [z]; exact hD)
            rw [upd_ne e9]; exact n16.nn a h
        · unfold PotAt; rw [upd_ne (fun z => Dap z.symm)]; exact hp6
  · left
    refine ⟨wki.2 (by omega), ?_⟩
    rw [List.drop_eq_nil_of_le (by omega)] at hc
    cases hc
    rw [List.append_nil] at q
    exact q B2 H' Da accV (n1.trans n2) hp2 hD0 hBD hDl ra
theorem o_lc {elt tg iter : Expr} {ifs : List Expr} {scope : Scope} {msrc : Env' → Mo (List D)} {mg : MG} {mt : Env' → Mo Bool} {me : Env' → Mo D} {sl : List Nat} (own : List (Str × Nat)) (hc : X.calm = true) (hN : X.N.Nodup) (ok : BlkOk X.N X.env.scope scope own) (hi : PJD cs X tg iter msrc)
    (hg : ∀ (s : Shared) (H : Hp) (C : Addr) (cl : List (Str × Addr)) (fp : List Addr), PGD cs (X.blk s H scope (compEnvC scope cl C X.env) fp) tg sl mg) (ht : ∀ (s : Shared) (H : Hp) (C : Addr) (cl : List (Str × Addr)) (fp : List Addr), PTsD cs (X.blk s H scope (compEnvC scope cl C X.env) fp) ifs mt)
    (he : ∀ (s : Shared) (H : Hp) (C : Addr) (cl : List (Str × Addr)) (fp : List Addr), PED cs (X.blk s H scope (compEnvC scope cl C X.env) fp) elt me) (hsl : ∀ i ∈ sl, i ∈ own.map (·.2) := by decide) (hs : ∀ x, foldedSetIterable iter X.env x = pure x := by intro _; rfl) :
    POD cs X (.ListComp elt [⟨tg, iter, ifs, 0⟩] scope pos) (mLc msrc (own.map (·.2)) mg mt me) := by
  obtain ⟨wi, i1, i2⟩ := hi.ex
  exact ⟨_, pe_lc hc hN i1 ok (fun s H C cl fp => (hg s H C cl fp).rd) (fun s H C cl fp => (ht s H C cl fp).rd) (fun s H C cl fp => (he s H C cl fp).rd) hs, lc_ev i2 hsl⟩
/-- name = [..] on one line -/
theorem s_lc (i : Nat) {y : Str} {py spos : Pos} {elt tg iter : Expr} {ifs : List Expr} {scope : Scope} {msrc : Env' → Mo (List D)} {mg : MG} {mt : Env' → Mo Bool} {me : Env' → Mo D} {sl : List Nat} (own : List (Str × Nat)) (hc : X.calm = true) (hN : X.N.Nodup) (hsw : swapsWith (.ListComp elt [⟨tg, iter, ifs, 0⟩] scope pos) (some (.Name y py)) spos.line X.env = pure true)
    (ok : BlkOk X.N X.env.scope scope own) (hi : PJD cs X tg iter msrc)
    (hg : ∀ (s : Shared) (H : Hp) (C : Addr) (cl : List (Str × Addr)) (fp : List Addr), PGD cs (X.blk s H scope (compEnvC scope cl C X.env) fp) tg sl mg) (ht : ∀ (s : Shared) (H : Hp) (C : Addr) (cl : List (Str × Addr)) (fp : List Addr), PTsD cs (X.blk s H scope (compEnvC scope cl C X.env) fp) ifs mt)
    (he : ∀ (s : Shared) (H : Hp) (C : Addr) (cl : List (Str × Addr)) (fp : List Addr), PED cs (X.blk s H scope (compEnvC scope cl C X.env) fp) elt me) (hy : X.N[i]? = some y := by rfl) (hyl : X.env.scope.names.lookup y = some .local := by rfl)
    (hsl : ∀ i ∈ sl, i ∈ own.map (·.2) := by decide) (hs : ∀ x, foldedSetIterable iter X.env x = pure x := by intro _; rfl) :
    PSD cs X (.Assign [.Name y py] (.ListComp elt [⟨tg, iter, ifs, 0⟩] scope pos) spos) (mSetO i (mLc msrc (own.map (·.2)) mg mt me)) := by
  obtain ⟨wi, i1, i2⟩ := hi.ex
  exact ⟨_, ps_setLc hc hN hy hyl hsw i1 ok (fun s H C cl fp => (hg s H C cl fp).rd) (fun s H C cl fp => (ht s H C cl fp).rd) (fun s H C cl fp => (he s H C cl fp).rd) hs, setO_ev (lc_ev i2 hsl)⟩

/-! ### own lists changed -/
def mApp (i : Nat) (m : Env' → Mo D) : MS := fun env => bindM (m env) fun d => match env[i]? with
  | some (.own ds) => if ds.length ≤ 100000 then retM (.nx, env.set i (.own (ds ++ [d]))) else failM
  | _ => failM
/-- xs.append(e), xs the def's own -/
theorem s_app (i : Nat) {x : Str} {p1 apos cpos : Pos} (h : PED cs X e m) (hN : X.N[i]? = some x := by rfl) (hv : Vis X.env.scope x := by first | exact Or.inl rfl | exact Or.inr (Or.inl rfl) | exact Or.inr (Or.inr rfl)) (hd : (x == ("__debug__" : Str)) = false := by decide)
    (hcd : (x == ("__classdict__" : Str)) = false := by decide) (hs : starEach [e] X.env = (false, eval e X.env) :: starEach [] X.env := by rfl)
    (hsw : swapsWith (.Call (.Attribute (.Name x p1) "append" apos) [e] [] cpos) none pos.line X.env = pure false := by rfl) (hbase : attributeBase (.Name x p1) "append" X.env (eval (.Name x p1) X.env) = eval (.Name x p1) X.env := by rfl) (hline : (apos.endLine == cpos.line) = true := by rfl)
    (hfew : ((((backTo cpos (starEach [e] X.env)).all fun x => !x.fst) && (backToKw cpos (keywordEach [] X.env)).all fun x => x.fst.isSome) && decide (([e].length + ([] : List Keyword).length + if ([] : List Keyword).isEmpty = true then 0 else 1) < 30)) = true := by rfl) :
    PSD cs X (.Expr (.Call (.Attribute (.Name x p1) "append" apos) [e] [] cpos) pos) (mApp i m) := by
  obtain ⟨te, h1, h2⟩ := h.ex
  refine ⟨_, ps_expr (pe_bm PySem.F.plainAttrs_list PySem.F.slot_list_append PySem.F.type_list_append mt_append (pe_var hN hv hd hcd) (L2.pa_cons h1 L2.pa_nil hs) (hbase := hbase) (hs := hs) (hfew := hfew) (hline := hline)) hsw, fun ap H0 B0 B σ env H p E o env' p' k hm q => ?_⟩
  obtain ⟨d, p1, e1, e2⟩ := bindM_some hm
  rcases g : env[i]? with _ | _ | _ | ds | _
  · rw [g] at e2; cases e2
  · rw [g] at e2; cases e2
  · rw [g] at e2; cases e2
  · rw [g] at e2
    dsimp only at e2
    split at e2
    case isFalse => cases e2
    rename_i hz
    cases e2
    obtain ⟨a, xs, g1, g2, g3, g4⟩ := k.sl i _ g
    have nap : a ≠ ap := fun z => k.hap (z ▸ k.ownNew i ds a g g1)
    refine ⟨.ref a, g1, .inl ⟨rfl, xs, SqL.of g3⟩, h2 ap H0 B0 B σ env H p _ d p' k e1 fun B1 H1 v n1 hp1 r1 => ?_⟩
    have k1 := k.nxt n1 hp1
    refine ⟨a, xs, v, rfl, rfl, n1.fr _ _ g3 nap, Nat.lt_of_le_of_lt (by rw [g4.length]; exact hz) (by rw [sizeLine_eq]; decide), ?_⟩
    exact q B1 σ _ n1.bb (k1.mut g g1 ((g4.mono n1.bb).append (reps_cons r1 reps_nil)))
  · rw [g] at e2; cases e2
def mPop (i j : Nat) (m : Env' → Mo D) : MS := fun env => bindM (m env) fun d => match env[i]?, d with
  | some (.own ds), .int n => match seqIndex? n ds.length with
    | some kk => match ds[kk]? with
      | some y => if -(2 ^ 62) ≤ n ∧ n ≤ 2 ^ 62 then retM (.nx, (env.set i (.own (ds.eraseIdx kk))).set j (.val y)) else failM
      | none => failM
    | none => failM
  | _, _ => failM
/-- xs[i] = e, xs the def's own -/
def mSetIx (i : Nat) (me mi : Env' → Mo D) : MS := fun env => bindM (me env) fun d => bindM (mi env) fun n => match env[i]?, n with
  | some (.own ds), .int n => match ixN ds.length n with
    | some j => retM (.nx, env.set i (.own (ds.set j d)))
    | none => failM
  | _, _ => failM
theorem s_setIx (i : Nat) {x : Str} {p1 tpos : Pos} (h : PED cs X e m) (hi : PED cs X a ma) (hN : X.N[i]? = some x := by rfl) (hv : Vis X.env.scope x := by first | exact Or.inl rfl | exact Or.inr (Or.inl rfl) | exact Or.inr (Or.inr rfl)) (hd : (x == ("__debug__" : Str)) = false := by decide)
    (hcd : (x == ("__classdict__" : Str)) = false := by decide)
    (ha : ∀ v, assign (.Subscript (.Name x p1) a tpos) X.env v = (do
      let ov ← holding [v] (eval (.Name x p1) X.env)
      let iv ← holding [v, ov] (eval a X.env)
      standAt tpos
      holding [v, ov, iv] (setItem ov iv v)
      release [v, ov, iv] []) := by intro _; rfl)
    (hs : swapsWithSole [.Subscript (.Name x p1) a tpos] e pos.line X.env = pure false := by rfl) (hw : swappedStores [.Subscript (.Name x p1) a tpos] e X.env = pure none := by rfl)
    (h1 : (assignEach [.Subscript (.Name x p1) a tpos] X.env).map (·.2) = [assign (.Subscript (.Name x p1) a tpos) X.env] := by rfl) : PSD cs X (.Assign [.Subscript (.Name x p1) a tpos] e pos) (mSetIx i m ma) := by
  obtain ⟨te, a1, a2⟩ := h.ex
  obtain ⟨ti, b1, b2⟩ := hi.ex
  refine ⟨_, ps_asg a1 (pg_sub (pe_var hN hv hd hcd) b1 set_list ha) hs hw h1, fun ap H0 B0 B σ env H p E o env' p' k hm q => ?_⟩
  obtain ⟨d, p1, e1, e2⟩ := bindM_some hm
  obtain ⟨n, p2, e3, e4⟩ := bindM_some e2
  rcases g : env[i]? with _ | _ | _ | ds | _
  · rw [g] at e4; cases e4
  · rw [g] at e4; cases e4
  · rw [g] at e4; cases e4
  · rw [g] at e4
    cases n <;> first | (cases e4; done) | skip
    rename_i nn
    dsimp only at e4
    cases z : ixN ds.length nn with
    | none => rw [z] at e4; cases e4
    | some j =>
      rw [z] at e4
      cases e4
      obtain ⟨t, xs, g1, g2, g3, g4⟩ := k.sl i _ g
      have nap : t ≠ ap := fun z => k.hap (z ▸ k.ownNew i ds t g g1)
      refine a2 ap H0 B0 B σ env H p _ d p1 k e1 fun B1 H1 v n1 hp1 r1 => ?_
      have k1 := k.nxt n1 hp1
      refine ⟨.ref t, g1, b2 ap H0 B0 B1 σ env H1 p1 _ _ p' k1 e3 fun B2 H2 u n2 hp2 r2 => ?_⟩
      have k2 := k1.nxt n2 hp2
      simp only [Rep] at r2
      have hh : H2 t = some (.lst xs) := n2.fr _ _ (n1.fr _ _ g3 nap) nap
      refine ⟨t, xs, nn, j, rfl, r2, hh, by rw [g4.length]; exact z, ?_⟩
      exact q B2 σ _ (n1.bb.trans n2.bb) (k2.mut g g1 (Reps.set (r1.mono n2.bb) j (g4.mono (n1.bb.trans n2.bb))))
  · rw [g] at e4; cases e4
end
end DL
end

section
set_option Elab.async false
set_option linter.all false
set_option maxRecDepth 100000
set_option maxHeartbeats 4000000
/-! DL: instances, their attributes, methods, operators; isinstance; making. -/
namespace DL
open PySem PySem.Spec PyProof.Rows L2
open Evl (Ex)

theorem lookup_at {α : Type} : ∀ {fs : List (Str × α)} {i : Nat} {f : Str} {v : α}, (fs.map (·.1)).Nodup → (fs.map (·.1))[i]? = some f → (fs.map (·.2))[i]? = some v → fs.lookup f = some v
  | [], i, f, v, _, h, _ => by simp at h
  | (g, x) :: fs, 0, f, v, _, h, h' => by
    simp at h h'
    subst h; subst h'
    simp [List.lookup]
  | (g, x) :: fs, i + 1, f, v, nd, h, h' => by
    rw [List.map_cons, List.nodup_cons] at nd
    rw [List.map_cons, List.getElem?_cons_succ] at h h'
    have ne : f ≠ g := fun z => nd.1 (by rw [← z]; exact List.mem_of_getElem? h)
    rw [List.lookup_cons]
    have : (f == g) = false := beq_eq_false_iff_ne.mpr ne
    rw [this]
    exact lookup_at nd.2 h h'
theorem lookup_no {α : Type} : ∀ {fs : List (Str × α)} {f : Str}, f ∉ fs.map (·.1) → fs.lookup f = none
  | [], _, _ => rfl
  | (g, x) :: fs, f, h => by
    rw [List.map_cons, List.mem_cons, not_or] at h
    rw [List.lookup_cons, beq_eq_false_iff_ne.mpr h.1]
    exact lookup_no h.2
/-- the class c stands at C, its instances' attributes are fn -/
structure ClsAt (K : PySem.W.Frag) (cs : CT) (c : Nat) (C : Addr) (fn : List Str) : Prop where
  at_ : cs c = some (C, fn)
  nd : fn.Nodup
  cl : Cls K C
def mFld (c i : Nat) (a : Env' → Mo D) : Env' → Mo D := fun env => bindM (a env) fun x => match x with
  | .ins c' ds => if c' = c then match ds[i]? with
      | some d => retM d
      | none => failM
    else failM
  | _ => failM
section
variable {cs : CT} {X : Cx} {e a b : Expr} {es : List Expr} {m ma mb : Env' → Mo D} {pos : Pos} {C f : Addr} {fn : List Str} {c k : Nat} {fd : FuncData} {ps : List Str} {g : Bool} {fm : List D → Mo D}
theorem p_fld (i : Nat) {x : Str} (T : ClsAt X.K cs c C fn) (hn : NoAttr X.K C x) (ha : PED cs X e ma) (hi : fn[i]? = some x := by rfl) (hb : attributeBase e x X.env (eval e X.env) = eval e X.env := by rfl) : PED cs X (.Attribute e x pos) (mFld c i ma) := by
  obtain ⟨ta, a1, a2⟩ := ha.ex
  refine ⟨_, pe_fld a1 hb, fun ap H0 B0 B σ env H p Q d p' k hm q => ?_⟩
  obtain ⟨y, p1, e1, e2⟩ := bindM_some hm
  cases y <;> first | (cases e2; done) | skip
  rename_i c' ds
  dsimp only at e2
  split at e2
  case isFalse => cases e2
  rename_i hc
  subst hc
  cases z : ds[i]? with
  | none => rw [z] at e2; cases e2
  | some d' =>
    rw [z] at e2
    cases e2
    refine a2 ap H0 B0 B σ env H p _ _ p' k e1 fun B1 H1 v n1 hp1 r1 => ?_
    simp only [Rep] at r1
    obtain ⟨a', C', fn', dx, fs, rfl, h1, h2, h3, h4⟩ := r1
    rw [T.at_] at h1
    cases h1
    obtain ⟨v, g1, g2⟩ := h4.get z
    exact ⟨a', C, dx, fs, v, rfl, n1.bh _ _ h2, T.cl, hn, lookup_at (by rw [h3]; exact T.nd) (by rw [h3]; exact hi) g1, q B1 H1 v n1 hp1 g2⟩
/-- what an instance's datum says -/
theorem rep_ins {K : PySem.W.Frag} {ap : Addr} {B : Hp} {ds : List D} {v : V} (T : ClsAt K cs c C fn) (r : Rep K cs ap B (.ins c ds) v) : ∃ a' dx fs, v = .ref a' ∧ B a' = some (.ins C dx fs) ∧ fs.map (·.1) = fn ∧ Reps K cs ap B ds (fs.map (·.2)) := by
  simp only [Rep] at r
  obtain ⟨a', C', fn', dx, fs, rfl, h1, h2, h3, h4⟩ := r
  rw [T.at_] at h1
  cases h1
  exact ⟨a', dx, fs, rfl, h2, h3, h4⟩
/-- o.m(e, ..) -/
def onC (c : Nat) (f : List D → Mo D) : List D → Mo D := fun ds => match ds with
  | .ins c' gs :: r => if c' = c then f (.ins c' gs :: r) else failM
  | _ => failM
def mMeth (c : Nat) (f : List D → Mo D) (o : Env' → Mo D) (m : Env' → Mo (List D)) : Env' → Mo D := fun env => bindM (o env) fun x => bindM (m env) fun ds => onC c f (x :: ds)
theorem meth_ev {K : PySem.W.Frag} {n : Nat} {ta : TE} {t : TA} {x : Str} {mm : Env' → Mo (List D)} (T : ClsAt K cs c C fn) (hx : x ∉ fn) (ha : EvE K cs ta ma) (ht : EvA K cs t mm) (hn : ∀ ds p d p', fm ds p = some (d, p') → ds.length = n) : EvE K cs (tMeth C x (spD K cs n fm) [] E0 ta t) (mMeth c fm ma mm) := by
  intro ap H0 B0 B σ env H p Q d p' k hm q
  obtain ⟨y, p1, e1, e2⟩ := bindM_some hm
  obtain ⟨ds, p2, e3, e4⟩ := bindM_some e2
  unfold onC at e4
  cases y <;> first | (cases e4; done) | skip
  rename_i c' gs
  dsimp only at e4
  split at e4
  case isFalse => cases e4
  rename_i hc
  subst hc
  refine ha ap H0 B0 B σ env H p _ _ p1 k e1 fun B1 H1 v n1 hp1 r1 => ?_
  have k1 := k.nxt n1 hp1
  obtain ⟨a', dx, fs, rfl, h2, h3, h4⟩ := rep_ins T r1
  refine ⟨a', dx, fs, rfl, n1.bh _ _ h2, lookup_no (by rw [h3]; exact hx), ht ap H0 B0 B1 σ env H1 p1 _ ds p2 k1 e3 fun B2 H2 vs n2 hp2 r2 => ?_⟩
  have k2 := k1.nxt n2 hp2
  have rr : Reps K cs ap B2 (.ins c' gs :: ds) (.ref a' :: (vs ++ [])) := by
    rw [List.append_nil]
    exact reps_cons (r1.mono n2.bb) r2
  exact ⟨ap, B2, _, p2, d, p', by rw [rr.length, hn _ p2 d p' e4], k2.bh, hp2, k2.bap, rr, e4, fun B' H' w n3 hp3 r3 => q B' H' w ((n1.trans n2).trans n3) hp3 r3⟩
theorem p_meth {n : Nat} {x : Str} {apos : Pos} {mm : Env' → Mo (List D)} {pl : Sem Bool} (T : ClsAt X.K cs c C fn) (hm : Meth X.K C x f) (F : FnD false X.prog X.w X.K X.mg X.base k f fd ps (spD X.K cs n fm)) (hr : Room k X.A) (hb : Binds X.K fd ps []) (ho : PED cs X a ma) (ha : PAD cs X (e :: es) mm) (hx : x ∉ fn := by decide +kernel)
    (hst : starEach (e :: es) X.env = (false, eval e X.env) :: starEach es X.env := by rfl) (hpl : (backTo pos (starEach es X.env)).any (·.1) = false := by rfl)
    (ht : eval (.Call (.Attribute a x apos) (e :: es) [] pos) X.env = (do
      let ov ← eval a X.env
      standAt apos.atName
      let (f, first) ← holding [ov] (getMethod ov x pl)
      callWith pos f first (backTo pos (starEach (e :: es) X.env)) (backToKw pos (keywordEach [] X.env))) := by rfl) :
    PED cs X (.Call (.Attribute a x apos) (e :: es) [] pos) (mMeth c (lenM n fm) ma mm) := by
  obtain ⟨ta, a1, a2⟩ := ho.ex
  obtain ⟨t, t1, t2⟩ := ha.ex
  have F' : FnOk X.prog X.w X.K X.mg X.base CX0 k f fd ps (spD X.K cs n (lenM n fm)) := F.ok.imp fun vs H Q E h => spD_len h
  exact ⟨_, pe_meth a1 T.cl hm F' hr hb .nil pass0 t1 hst hpl ht, meth_ev T hx a2 t2 lenM_len⟩
theorem p_meth0 {n : Nat} {x : Str} {apos : Pos} {pl : Sem Bool} (T : ClsAt X.K cs c C fn) (hm : Meth X.K C x f) (F : FnD false X.prog X.w X.K X.mg X.base k f fd ps (spD X.K cs n fm)) (hr : Room k X.A) (hb : Binds X.K fd ps []) (ho : PED cs X a ma) (hx : x ∉ fn := by decide +kernel)
    (ht : eval (.Call (.Attribute a x apos) [] [] pos) X.env = (do
      let ov ← eval a X.env
      standAt apos.atName
      let (f, first) ← holding [ov] (getMethod ov x pl)
      callWith pos f first (backTo pos (starEach [] X.env)) (backToKw pos (keywordEach [] X.env))) := by rfl) :
    PED cs X (.Call (.Attribute a x apos) [] [] pos) (mMeth c (lenM n fm) ma mNil) := by
  obtain ⟨ta, a1, a2⟩ := ho.ex
  have F' : FnOk X.prog X.w X.K X.mg X.base CX0 k f fd ps (spD X.K cs n (lenM n fm)) := F.ok.imp fun vs H Q E h => spD_len h
  refine ⟨_, pe_meth0 a1 T.cl hm F' hr hb .nil pass0 ht, meth_ev T hx a2 (fun ap H0 B0 B σ env H p Q d p' k hm q => ?_) lenM_len⟩
  cases hm
  exact q B H [] (Nxt.refl k.bh) k.pot reps_nil
/-- e.f, a property -/
def mProp (c : Nat) (f : List D → Mo D) (a : Env' → Mo D) : Env' → Mo D := fun env => bindM (a env) fun x => onC c f [x]
theorem p_prop {x : Str} {pa : Addr} (T : ClsAt X.K cs c C fn) (hp : PropOf X.K C x pa f) (F : FnD false X.prog X.w X.K X.mg X.base k f fd ps (spD X.K cs 1 fm)) (hr : Room (k + 1) X.A) (hb : Binds X.K fd ps []) (ha : PED cs X e ma) (hab : attributeBase e x X.env (eval e X.env) = eval e X.env := by rfl) :
    PED cs X (.Attribute e x pos) (mProp c fm ma) := by
  obtain ⟨ta, a1, a2⟩ := ha.ex
  refine ⟨_, pe_prop a1 T.cl hp F.ok hr hb .nil pass0 hab, fun ap H0 B0 B σ env H p Q d p' k hm q => ?_⟩
  obtain ⟨y, p1, e1, e2⟩ := bindM_some hm
  unfold onC at e2
  cases y <;> first | (cases e2; done) | skip
  rename_i c' gs
  dsimp only at e2
  split at e2
  case isFalse => cases e2
  rename_i hc
  subst hc
  refine a2 ap H0 B0 B σ env H p _ _ p1 k e1 fun B1 H1 v n1 hp1 r1 => ?_
  have k1 := k.nxt n1 hp1
  obtain ⟨a', dx, fs, rfl, h2, h3, h4⟩ := rep_ins T r1
  exact ⟨a', dx, fs, rfl, n1.bh _ _ h2, ap, B1, _, p1, d, p', rfl, k1.bh, hp1, k1.bap, reps_cons r1 reps_nil, e2, fun B' H' w n3 hp3 r3 => q B' H' w (n1.trans n3) hp3 r3⟩
/-- a new instance: the promise of C(..) -/
def spMk (K : PySem.W.Frag) (cs : CT) (C : Addr) (n : Nat) (f : List D → Mo D) : Sp := fun vs H Q _ => ∃ x dx H1 us, vs = .ref x :: us ∧ us.length = n ∧ H = upd (upd H1 dx (.own x)) x (.ins C dx []) ∧ H1 x = none ∧ H1 dx = none ∧ dx ≠ x ∧ ∃ ap B ds p d p', Ex B H1 ∧ PotAt ap H1 p ∧ B ap = none ∧ Reps K cs ap B ds us ∧ f ds p = some (d, p') ∧
  ∀ B' H' , Nxt ap B H1 B' H' → PotAt ap H' p' → Rep K cs ap B' d (.ref x) → Q .non H'
theorem p_make {n : Nat} {x : Str} {p : Pos} {mm : Env' → Mo (List D)} {dvs : List V} {dds : List D} {dus : List Value} (M : Mk X.K C f) (F : FnOk X.prog X.w X.K X.mg X.base CX0 k f fd ps (spMk X.K cs C (n + dvs.length) fm)) (hr : Room (k + 1) X.A) (hm : X.mg x = some (.ref C)) (hb : Binds X.K fd ps dus) (hd : Vals dvs dus) (hrd : ∀ ap B, Reps X.K cs ap B dds dvs)
    (ha : PAD cs X (e :: es) mm) (hg : Gl X x := by rfl) (hdb : (x == ("__debug__" : Str)) = false := by decide) (he : starEach (e :: es) X.env = (false, eval e X.env) :: starEach es X.env := by rfl) (hpl : (backTo pos (starEach es X.env)).any (·.1) = false := by rfl) :
    PED cs X (.Call (.Name x p) (e :: es) [] pos) (mCall (fun ds => lenM n (fun ds => fm (ds ++ dds)) ds) mm) := by
  obtain ⟨ta, a1, a2⟩ := ha.ex
  refine ⟨_, pe_make M F hr hg hm hb hd pass0 a1 hdb he hpl, fun ap H0 B0 B σ env H p Q d p' k hm q => ?_⟩
  obtain ⟨ds, p1, e1, e2⟩ := bindM_some hm
  unfold lenM at e2
  split at e2
  case isFalse => cases e2
  rename_i hl
  refine a2 ap H0 B0 B σ env H p _ ds p1 k e1 fun B1 H1 vs n1 hp1 r1 x' dx hx hdx hne => ?_
  have k1 := k.nxt n1 hp1
  exact ⟨x', dx, H1, _, rfl, by rw [List.length_append, r1.length, hl], rfl, hx, hdx, hne, ap, B1, ds ++ dds, p1, d, p', k1.bh, hp1, k1.bap, r1.append (hrd ap B1), e2, fun B' H' n2 hp2 r2 => ⟨rfl, q B' H' _ (n1.trans n2) hp2 r2⟩⟩
/-! ### own operators -/
structure TyF (K : PySem.W.Frag) (C : Addr) : Prop where
  cl : Cls K C
  ca : PySem.W.findIn K (.ref C) "__class__" = some (some (.builtin "object.__class__"))
  sg : PySem.W.specialIn K (.builtin "object.__class__") "__get__" = some (some (.builtin "getset_descriptor.__get__"))
  tk : PySem.W.takesIn K (.builtin "object.__class__") = some true
  mo : PySem.W.mroIn K C (.type "object") = some true
/-- what an own operator wants of the class -/
structure OpF (K : PySem.W.Frag) (C f : Addr) (op : Operator) : Prop where
  sf : PySem.W.selfFirst K C = true
  at_ : PySem.W.findIn K (.ref C) (PySem.dunder op.info.2) = some (some (.ref f))
  fn : PySem.W.isFn K (.ref f) = true
  rf : ∃ rc, PySem.W.findIn K (.ref C) (dunderR op.info.2) = some rc ∧ (rc = none ∨ ∃ g : Addr, rc = some (.ref g))
  i1 : ∃ fo, PySem.W.findIn K (.type "int") (PySem.dunder op.info.2) = some fo
  i2 : ∃ ro, PySem.W.findIn K (.type "int") (dunderR op.info.2) = some ro
  sb : PySem.W.subIn K (.type "int") (.ref C) = some false
def dUser (c : Nat) (f : List D → Mo D) : D → D → Mo D := fun x y => match x, y with
  | .ins c' gs, .int j => if c' = c then f [.ins c' gs, .int j] else failM
  | .ins c' gs, .ins c'' hs => if c' = c ∧ c'' = c then f [.ins c' gs, .ins c'' hs] else failM
  | _, _ => failM
def rUser (K : PySem.W.Frag) (cs : CT) (C : Addr) (fm : List D → Mo D) : R2 := fun x y H Q => ∃ a dx fs, x = .ref a ∧ H a = some (.ins C dx fs) ∧ ((∃ j, y = .int j) ∨ ∃ b dy gs, y = .ref b ∧ H b = some (.ins C dy gs)) ∧ spD K cs 2 fm [x, y] H Q E0
theorem rel_back {v : V} {u : Value} {Q : Value → Shared → Prop} {s : Shared} (r : L2.RelV v u) (h : Q u s) : PySem.W.CmpBack Q u s := by
  cases v <;> simp only [L2.RelV] at r <;> first | (subst r; exact h) | (obtain ⟨t, rfl⟩ := r; exact h)
theorem opR_user {op : Operator} (O : OpF X.K C f op) (F : FnD false X.prog X.w X.K X.mg X.base k f fd ps (spD X.K cs 2 fm)) (hr : Room k X.A) (hb : Binds X.K fd ps []) : OpR X (binaryOp op) (rUser X.K cs C fm) := by
  intro pins s σ H x y v u Q I rx ry h
  obtain ⟨a', dx, fs, rfl, ha, hy, hs⟩ := h
  cases rx
  obtain ⟨mA, J, _⟩ := ins_get I.hok ha
  obtain ⟨od, J, _⟩ := J.look
  obtain ⟨m', hF⟩ := I.fr
  have hlen : ps.length = 2 := (F.len _ _ _ _ hs).symm
  have run : ∀ w, L2.RelV y w → wpAny (model X.prog X.w) X.A (call (.ref f) [.ref a', w]) (PySem.W.CmpBack (EP X pins σ Q)) X.xe s := fun w rw' => by
    have hb1 := hb s [.ref a', w] I.kIn (by rw [List.append_nil, hlen]; rfl)
    rw [List.append_nil] at hb1
    refine thn (call_d (pv := [.ref a', w]) (kw := []) F hr (fun z => nomatch z) hb1 I (.cons (show L2.RelV (V.ref a') (Value.ref a') from rfl) (.cons rw' .nil)) hs) fun w2 s2 hq => ?_
    obtain ⟨v2, H2, I2, r2, q2⟩ := hq
    exact rel_back r2 ⟨v2, H2, I2, r2, q2⟩
  rcases hy with ⟨j, rfl⟩ | ⟨b', dy, gs, rfl, hb'⟩
  · obtain ⟨t, rfl⟩ := ry
    obtain ⟨rc, r1, r2⟩ := O.rf
    obtain ⟨fo, i1⟩ := O.i1
    obtain ⟨ro, i2⟩ := O.i2
    exact PySem.W.ksp_binT hF I.ok.mod.kin J rfl O.sf O.at_ O.fn r1 r2 i1 i2 O.sb (run _ ⟨t, rfl⟩)
  · cases ry
    obtain ⟨mB, J', _⟩ := ins_get I.hok hb'
    obtain ⟨od', J', _⟩ := J'.look
    exact PySem.W.binop_K hF I.ok.mod.kin J J'.type O.sf O.at_ O.fn (run _ rfl)
theorem opD_user {op : Operator} (T : ClsAt X.K cs c C fn) (O : OpF X.K C f op) (F : FnD false X.prog X.w X.K X.mg X.base k f fd ps (spD X.K cs 2 fm)) (hr : Room k X.A) (hb : Binds X.K fd ps []) : OpD cs X (binaryOp op) (dUser c fm) := by
  refine ⟨_, opR_user O F hr hb, fun ap B H p x y v u Q d p' e hp hbp rx ry hm q => ?_⟩
  unfold dUser at hm
  split at hm
  · split at hm
    case isFalse => cases hm
    rename_i hc
    subst hc
    obtain ⟨a', dx, fs, rfl, h2, h3, h4⟩ := rep_ins T rx
    have ry' := ry
    simp only [Rep] at ry'
    subst ry'
    exact ⟨a', dx, fs, rfl, e _ _ h2, .inl ⟨_, rfl⟩, ap, B, _, p, d, p', rfl, e, hp, hbp, reps_cons rx (reps_cons ry reps_nil), hm, q⟩
  · split at hm
    case isFalse => cases hm
    rename_i hc
    obtain ⟨hc, hc'⟩ := hc
    subst hc; subst hc'
    obtain ⟨a', dx, fs, rfl, h2, h3, h4⟩ := rep_ins T rx
    obtain ⟨b', dy, gs, rfl, g2, g3, g4⟩ := rep_ins T ry
    exact ⟨a', dx, fs, rfl, e _ _ h2, .inr ⟨b', dy, gs, rfl, e _ _ g2⟩, ap, B, _, p, d, p', rfl, e, hp, hbp, reps_cons rx (reps_cons ry reps_nil), hm, q⟩
  · cases hm
/-! ### isinstance -/
inductive IT where
  | ty (n : String) | cl (c : Nat)
/-- the built-in type of a datum -/
def tyN : D → Option String
  | .non => some "NoneType"
  | .bl _ => some "bool"
  | .int _ => some "int"
  | .str _ => some "str"
  | .lst _ => some "list"
  | .tup _ => some "tuple"
  | .ed => some "dict"
  | _ => none
def tyNames : List String := ["NoneType", "bool", "int", "str", "list", "tuple", "dict"]
/-- the answers that are used -/
def isT : String → D → Option Bool
  | "int", .int _ => some true
  | "int", .bl _ => some true
  | "int", .non => some false
  | "int", .str _ => some false
  | "int", .lst _ => some false
  | "int", .tup _ => some false
  | "int", .ins _ _ => some false
  | "int", .ed => some false
  | "bool", .bl _ => some true
  | "bool", .int _ => some false
  | "bool", .non => some false
  | "bool", .str _ => some false
  | "bool", .lst _ => some false
  | "bool", .tup _ => some false
  | "bool", .ins _ _ => some false
  | "bool", .ed => some false
  | "list", .lst _ => some true
  | "list", .bl _ => some false
  | "list", .int _ => some false
  | "list", .non => some false
  | "list", .str _ => some false
  | "list", .tup _ => some false
  | "list", .ins _ _ => some false
  | "list", .ed => some false
  | "tuple", .tup _ => some true
  | "tuple", .bl _ => some false
  | "tuple", .int _ => some false
  | "tuple", .non => some false
  | "tuple", .str _ => some false
  | "tuple", .lst _ => some false
  | "tuple", .ins _ _ => some false
  | "tuple", .ed => some false
  | "str", .str _ => some true
  | "str", .bl _ => some false
  | "str", .int _ => some false
  | "str", .non => some false
  | "str", .lst _ => some false
  | "str", .tup _ => some false
  | "str", .ins _ _ => some false
  | "str", .ed => some false
  | _, _ => none
def isC (c : Nat) : D → Option Bool
  | .ins c' _ => some (c' == c)
  | .non => some false
  | .bl _ => some false
  | .int _ => some false
  | .str _ => some false
  | .lst _ => some false
  | .tup _ => some false
  | .ed => some false
  | _ => none
/-- what is known of the classes: their own type, that they are no built-in ones, that they are unlike -/
structure IsiF (K : PySem.W.Frag) (cs : CT) : Prop where
  ty : ∀ c C fn, cs c = some (C, fn) → TyF K C
  b : ∀ c C fn, cs c = some (C, fn) → ∀ n ∈ ["int", "bool", "list", "tuple", "str"], PySem.W.kitOne K (.ref C) (.type n) = some false
  o : ∀ c C fn, cs c = some (C, fn) → ∀ n ∈ tyNames, PySem.W.kitOne K (.type n) (.ref C) = some false
  cc : ∀ c C fn c' C' fn', cs c = some (C, fn) → cs c' = some (C', fn') → PySem.W.kitOne K (.ref C) (.ref C') = some (c == c')
/-- a datum's type for the library -/
theorem ty_of {K : PySem.W.Frag} {ap : Addr} {B H : Hp} {d : D} {v : V} (I : IsiF K cs) (e : Ex B H) (r : Rep K cs ap B d v) : (∃ n, tyN d = some n ∧ n ∈ tyNames ∧ TyX K H v (.type n)) ∨ (∃ c ds C fn, d = .ins c ds ∧ cs c = some (C, fn) ∧ TyX K H v (.ref C)) ∨ d = .pot := by
  cases d with
  | non => simp only [Rep] at r; subst r; exact .inl ⟨_, rfl, by decide, .base .non⟩
  | bl b => simp only [Rep] at r; subst r; exact .inl ⟨_, rfl, by decide, .base (.bl b)⟩
  | int i => simp only [Rep] at r; subst r; exact .inl ⟨_, rfl, by decide, .base (.int i)⟩
  | str x => simp only [Rep] at r; subst r; exact .inl ⟨_, rfl, by decide, .base (.str x)⟩
  | lst ds => simp only [Rep] at r; obtain ⟨a, xs, rfl, h, _⟩ := r; exact .inl ⟨_, rfl, by decide, .base (.lst (e _ _ h))⟩
  | tup ds =>
    simp only [Rep] at r
    obtain ⟨a, xs, rfl, h, _⟩ := r
    refine .inl ⟨_, rfl, by decide, ?_⟩
    rcases h with (h | ⟨o, h⟩) | ⟨o, its, n, h, hc, _⟩
    · exact .base (.tup (e _ _ h))
    · exact .fTuple (e _ _ h)
    · exact .kTuple h hc
  | ins c ds =>
    simp only [Rep] at r
    obtain ⟨a, C, fn, dx, fs, rfl, h1, h2, _⟩ := r
    have t := I.ty c C fn h1
    exact .inr (.inl ⟨c, ds, C, fn, rfl, h1, .base (.ins (e _ _ h2) t.cl t.ca t.sg t.tk t.mo)⟩)
  | pot => exact .inr (.inr rfl)
  | ed => simp only [Rep] at r; obtain ⟨a, rfl, h⟩ := r; exact .inl ⟨_, rfl, by decide, .base (.dK (e _ _ h))⟩
theorem isT_kit {K : PySem.W.Frag} {n T : String} {d : D} {b : Bool} (h : tyN d = some n) (hb : isT T d = some b) : PySem.W.kitOne K (.type n) (.type T) = some b := by
  refine kit_ty ?_
  unfold isT at hb
  split at hb <;> first | (cases hb; done) | (simp only [tyN] at h; cases h; done) | (simp only [tyN] at h; cases h; cases hb; decide +kernel)
theorem isT_mem {T : String} {d : D} {b : Bool} (hb : isT T d = some b) : T ∈ ["int", "bool", "list", "tuple", "str"] := by
  unfold isT at hb
  split at hb <;> first | (cases hb; done) | decide
theorem isT_ins {T : String} {c : Nat} {ds : List D} {b : Bool} (hb : isT T (.ins c ds) = some b) : b = false := by
  unfold isT at hb
  split at hb <;> first | (cases hb; done) | (cases hb; rfl) | skip
  all_goals (rename_i h; cases h)
def mIsT (T : String) (a : Env' → Mo D) : Env' → Mo D := fun env => bindM (a env) fun x => match isT T x with
  | some b => retM (.bl b)
  | none => failM
def mIsC (c : Nat) (a : Env' → Mo D) : Env' → Mo D := fun env => bindM (a env) fun x => match isC c x with
  | some b => retM (.bl b)
  | none => failM
/-- (T, U) -/
def mIsT2 (T U : String) (a : Env' → Mo D) : Env' → Mo D := fun env => bindM (a env) fun x => match isT T x, isT U x with
  | some b, some b' => retM (.bl (b || b'))
  | _, _ => failM
theorem kit_T {K : PySem.W.Frag} {ap : Addr} {B H : Hp} {d : D} {v : V} {T : String} {b : Bool} (I : IsiF K cs) (e : Ex B H) (r : Rep K cs ap B d v) (hb : isT T d = some b) : ∃ t, TyX K H v t ∧ PySem.W.kitOne K t (.type T) = some b := by
  rcases ty_of I e r with ⟨n, h1, h2, h3⟩ | ⟨c, ds, C, fn, rfl, h1, h2⟩ | rfl
  · exact ⟨_, h3, isT_kit h1 hb⟩
  · have := isT_ins hb
    subst this
    exact ⟨_, h2, I.b c C fn h1 T (isT_mem hb)⟩
  · unfold isT at hb
    split at hb <;> cases hb <;> rename_i h <;> cases h
end
end DL
end

section
set_option Elab.async false
set_option linter.all false
set_option maxRecDepth 100000
set_option maxHeartbeats 4000000
/-! == and != of lists and tuples whose items may run code, both answers. -/
namespace DQ
open PySem PySem.SeqAt
open AutoSeq1 (wpAny_loadPart')
open MeetsSeq MeetsSeq2 MeetsSeq3 SeqRoads2
section
variable {prog : Program} {w : World} {A : Around} {R : Result → Shared → Prop}
/-- the lists, as they are read -/
def Two (s : Shared) (l b : Addr) (N : Nat) (items items2 : Array Value) : Prop := (∃ n, s.heap.get? l = some { cls := .type "list", data := .seq items n }) ∧ (∃ n, s.heap.get? b = some { cls := .type "list", data := .seq items2 n }) ∧ items.size = N ∧ items2.size = N
def opI (ne : Bool) : Int := if ne then 3 else 2
theorem loopB (ne : Bool) (l b : Addr) (N : Nat) (I : Nat → Shared → Prop) (J : Nat → Shared → Prop)
    (hl : ∀ i s, I i s → ∃ items items2, Two s l b N items items2 ∧ ∀ (h1 : i < items.size) (h2 : i < items2.size), wpAny (model prog w) A.in1 (eqBool items[i] items2[i]) (fun r s' => if r = true then I (i + 1) s' else J i s') (fun e s' => R (.error e) s') s)
    (hJ : ∀ i s, J i s → (∃ items items2, Two s l b N items items2) ∧ R (.ok (.ret (.bool ne))) s)
    (fin : ∀ s, I N s → R (.ok (.ret (.bool (!ne)))) s) (k : Nat) :
    ∀ i : Nat, N - i = k → i ≤ N → ∀ s, I i s →
      wpAny (model prog w) A.in1 (Builtin.«list.__eq__.loop» ⟨[.ref l, .ref b, rawInt i, rawInt (opI ne)], []⟩) (GQ.FinOf prog w A R) (fun e s' => R (.error e) s') s := by
  induction k with
  | zero =>
    intro i hk hi s h
    obtain ⟨items, items2, ⟨⟨n, hl1⟩, ⟨n2, hb1⟩, hs1, hs2⟩, _⟩ := hl _ _ h
    have hi' : i = N := by omega
    have hR := fin s (hi' ▸ h)
    have hi1 : items[((i : Nat) : Int).toNat]? = none := by simp; omega
    have hi2 : items2[((i : Nat) : Int).toNat]? = none := by simp; omega
    obtain ⟨hp, g, d, tk, os⟩ := s
    cases ne with
    | false =>
      wp_walk using wpAny_loadPart' hl1, wpAny_loadPart' hb1
      rw [hi1, hi2]
      wp_walk using wpAny_loadPart' hl1, wpAny_loadPart' hb1
      show R (.ok (.ret (.bool (items.size == items2.size)))) _
      rw [hs1, hs2]
      simpa using hR
    | true =>
      wp_walk using wpAny_loadPart' hl1, wpAny_loadPart' hb1
      rw [hi1, hi2]
      wp_walk using wpAny_loadPart' hl1, wpAny_loadPart' hb1
      show R (.ok (.ret (.bool (items.size != items2.size)))) _
      rw [hs1, hs2]
      simpa using hR
  | succ k ih =>
    intro i hk hi s h
    obtain ⟨items, items2, ⟨⟨n, hl1⟩, ⟨n2, hb1⟩, hs1, hs2⟩, turn⟩ := hl _ _ h
    have hlt : i < items.size := by omega
    have hlt2 : i < items2.size := by omega
    have ht := turn hlt hlt2
    have hi1 : items[((i : Nat) : Int).toNat]? = some items[i] := by simp [hlt]
    have hi2 : items2[((i : Nat) : Int).toNat]? = some items2[i] := by simp [hlt2]
    have hc : ((i : Int) + 1) = ((i + 1 : Nat) : Int) := by omega
    obtain ⟨hp, g, d, tk, os⟩ := s
    cases ne with
    | false =>
      wp_walk using wpAny_loadPart' hl1, wpAny_loadPart' hb1
      rw [hi1, hi2]
      refine wpAny_bind (wpAny_mono ht (fun r s2 h2 => ?_) fun _ _ x => x)
      cases r with
      | true =>
        rw [if_pos rfl] at h2
        have hrec := ih (i + 1) (by omega) (by omega) s2 h2
        obtain ⟨hp2, g2, d2, tk2, os2⟩ := s2
        wp_walk
        rw [hc]
        exact ⟨plainId_quiet plain_eq_loop _, codeAny_builtin entry_eq_loop (by
          rw [Around.under_plainId plain_eq_loop _]
          exact hrec)⟩
      | false =>
        rw [if_neg (by decide)] at h2
        obtain ⟨⟨it1, it2, ⟨m1, q1⟩, ⟨m2, q2⟩, z1, z2⟩, hR⟩ := hJ i s2 h2
        have y1 : it1[((i : Nat) : Int).toNat]? = some it1[i] := by simp
        have y2 : it2[((i : Nat) : Int).toNat]? = some it2[i] := by simp
        obtain ⟨hp2, g2, d2, tk2, os2⟩ := s2
        wp_walk using wpAny_loadPart' q1, wpAny_loadPart' q2
        rw [y1, y2]
        wp_walk
        exact hR
    | true =>
      wp_walk using wpAny_loadPart' hl1, wpAny_loadPart' hb1
      rw [hi1, hi2]
      refine wpAny_bind (wpAny_mono ht (fun r s2 h2 => ?_) fun _ _ x => x)
      cases r with
      | true =>
        rw [if_pos rfl] at h2
        have hrec := ih (i + 1) (by omega) (by omega) s2 h2
        obtain ⟨hp2, g2, d2, tk2, os2⟩ := s2
        wp_walk
        rw [hc]
        exact ⟨plainId_quiet plain_eq_loop _, codeAny_builtin entry_eq_loop (by
          rw [Around.under_plainId plain_eq_loop _]
          exact hrec)⟩
      | false =>
        rw [if_neg (by decide)] at h2
        obtain ⟨⟨it1, it2, ⟨m1, q1⟩, ⟨m2, q2⟩, z1, z2⟩, hR⟩ := hJ i s2 h2
        have y1 : it1[((i : Nat) : Int).toNat]? = some it1[i] := by simp
        have y2 : it2[((i : Nat) : Int).toNat]? = some it2[i] := by simp
        obtain ⟨hp2, g2, d2, tk2, os2⟩ := s2
        wp_walk using wpAny_loadPart' q1, wpAny_loadPart' q2
        rw [y1, y2]
        wp_walk
        exact hR
/-- the two lists compared: of one length, item by item; else at once -/
theorem listB (ne : Bool) (l b : Addr) (N : Nat) (I : Nat → Shared → Prop) (J : Nat → Shared → Prop)
    (hl : ∀ i s, I i s → ∃ items items2, Two s l b N items items2 ∧ ∀ (h1 : i < items.size) (h2 : i < items2.size), wpAny (model prog w) A.in1 (eqBool items[i] items2[i]) (fun r s' => if r = true then I (i + 1) s' else J i s') (fun e s' => R (.error e) s') s)
    (hJ : ∀ i s, J i s → (∃ items items2, Two s l b N items items2) ∧ R (.ok (.ret (.bool ne))) s)
    (fin : ∀ s, I N s → R (.ok (.ret (.bool (!ne)))) s) {s : Shared} (h : I 0 s) :
    wpAny (model prog w) A.in1 ((if ne then Builtin.«list.__ne__» else Builtin.«list.__eq__») ⟨[.ref l, .ref b], []⟩) (GQ.FinOf prog w A R) (fun e s' => R (.error e) s') s := by
  obtain ⟨items, items2, ⟨⟨n, hl1⟩, ⟨n2, hb1⟩, hs1, hs2⟩, _⟩ := hl _ _ h
  have hrec := loopB (A := A) (R := R) ne l b N I J hl hJ fin _ 0 rfl (Nat.zero_le _) s h
  obtain ⟨hp, g, d, tk, os⟩ := s
  have f3 := AutoSeq1.sub_list_list
  have hne : ¬ (items.size != items2.size) = true := by simp [hs1, hs2]
  cases ne with
  | false =>
    rw [if_neg (by decide)]
    wp_walk using wpAny_loadPart' hl1, wpAny_loadPart' hb1
    exact ⟨plainId_quiet plain_eq_loop _, codeAny_builtin entry_eq_loop (by
      rw [Around.under_plainId plain_eq_loop _]
      exact hrec)⟩
  | true =>
    rw [if_pos rfl]
    wp_walk using wpAny_loadPart' hl1, wpAny_loadPart' hb1
    exact ⟨plainId_quiet plain_eq_loop _, codeAny_builtin entry_eq_loop (by
      rw [Around.under_plainId plain_eq_loop _]
      exact hrec)⟩
theorem listU (ne : Bool) {l b : Addr} {items items2 : Array Value} {n n2 : Nat} {s : Shared} (hl1 : s.heap.get? l = some { cls := .type "list", data := .seq items n }) (hb1 : s.heap.get? b = some { cls := .type "list", data := .seq items2 n2 }) (hz : items.size ≠ items2.size) (h : R (.ok (.ret (.bool ne))) s) :
    wpAny (model prog w) A.in1 ((if ne then Builtin.«list.__ne__» else Builtin.«list.__eq__») ⟨[.ref l, .ref b], []⟩) (GQ.FinOf prog w A R) (fun e s' => R (.error e) s') s := by
  have f3 := AutoSeq1.sub_list_list
  have hne : (items.size != items2.size) = true := by simpa using hz
  obtain ⟨hp, g, d, tk, os⟩ := s
  cases ne with
  | false =>
    rw [if_neg (by decide)]
    wp_walk using wpAny_loadPart' hl1, wpAny_loadPart' hb1
    exact h
  | true =>
    rw [if_pos rfl]
    wp_walk using wpAny_loadPart' hl1, wpAny_loadPart' hb1
    exact h
end
end DQ
end

section
set_option Elab.async false
set_option linter.all false
set_option maxRecDepth 100000
set_option maxHeartbeats 4000000
/-! == of tuples, both answers; == and != of data. -/
namespace DQ
open PySem PySem.SeqAt
open AutoSeq1 (wpAny_loadPart')
open MeetsSeq MeetsSeq2 MeetsSeq3 SeqRoads2
section
variable {prog : Program} {w : World} {A : Around} {R : Result → Shared → Prop}
/-- tuples: item by item, J behind an unequal pair; then the lengths -/
theorem tupB (ne : Bool) (l b : Addr) (xs ys : Array Value) (n n2 : Nat) (dd dd2 : Option Addr) (sl sl2 : Array (Option Value)) (I J : Nat → Shared → Prop)
    (turn : ∀ i (h1 : i < xs.size) (h2 : i < ys.size) s, I i s → wpAny (model prog w) A.in1 (eqBool xs[i] ys[i]) (fun r s' => if r = true then I (i + 1) s' else J i s') (fun e s' => R (.error e) s') s)
    (hJ : ∀ i s, J i s → R (.ok (.ret (.bool ne))) s) (fin : ∀ s, I (min xs.size ys.size) s → R (.ok (.ret (.bool ((xs.size == ys.size) != ne)))) s)
    {s : Shared} (hl1 : s.heap.get? l = some { cls := .type "tuple", dict := dd, data := .seq xs n, slots := sl }) (hb1 : s.heap.get? b = some { cls := .type "tuple", dict := dd2, data := .seq ys n2, slots := sl2 }) (h : I 0 s) :
    wpAny (model prog w) A.in1 ((if ne then Builtin.«tuple.__ne__» else Builtin.«tuple.__eq__») ⟨[.ref l, .ref b], []⟩) (GQ.FinOf prog w A R) (fun e s' => R (.error e) s') s := by
  have f2 := AutoSeq1.sub_tuple_tuple
  have hZ : (xs.toList.zip ys.toList).length = min xs.size ys.size := by simp
  have h0 := h
  obtain ⟨hp, g, d, tk, os⟩ := s
  cases ne with
  | false =>
    rw [if_neg (by decide)]
    wp_walk using wpAny_loadPart' hl1, wpAny_loadPart' hb1, wpAny_forIn_list _ (fun rest b s' => b.1 = none ∧ ∃ i, rest = (xs.toList.zip ys.toList).drop i ∧ i ≤ min xs.size ys.size ∧ I i s') _
    case turn =>
      rintro ⟨y, x⟩ rest b s' ⟨hb', i, hz, hi, hI⟩
      have hlt : i < (xs.toList.zip ys.toList).length := by
        rcases Nat.lt_or_ge i (xs.toList.zip ys.toList).length with h' | h'
        · exact h'
        · rw [List.drop_of_length_le h'] at hz; cases hz
      have hm : i < min xs.size ys.size := hZ ▸ hlt
      have h1 : i < xs.size := Nat.lt_of_lt_of_le hm (Nat.min_le_left _ _)
      have h2 : i < ys.size := Nat.lt_of_lt_of_le hm (Nat.min_le_right _ _)
      rw [List.drop_eq_getElem_cons hlt] at hz
      injection hz with hyx hrest
      have hy : y = xs[i] := by have := congrArg Prod.fst hyx; simpa using this
      have hx : x = ys[i] := by have := congrArg Prod.snd hyx; simpa using this
      subst hy hx
      refine wpAny_bind (wpAny_mono (turn i h1 h2 s' hI) (fun r s2 q2 => ?_) fun _ _ x => x)
      cases r with
      | true =>
        rw [if_pos rfl] at q2
        wp_walk
        exact ⟨rfl, i + 1, hrest, hm, q2⟩
      | false =>
        rw [if_neg (by decide)] at q2
        have q3 := hJ i s2 q2
        wp_walk
        exact q3
    case fin =>
      rintro ⟨b1, b2⟩ s' ⟨hb', i, hz, hi, hI⟩
      simp only at hb'
      subst hb'
      have hge : min xs.size ys.size ≤ i := by
        rcases Nat.lt_or_ge i (xs.toList.zip ys.toList).length with h' | h'
        · rw [List.drop_eq_getElem_cons h'] at hz; cases hz
        · exact hZ ▸ h'
      have hi' : i = min xs.size ys.size := by omega
      have hR := fin s' (hi' ▸ hI)
      wp_walk
      simpa [Builtin.Tuple.tupleCompareSizes, bne] using hR
    case h =>
      exact ⟨rfl, 0, rfl, Nat.zero_le _, h0⟩
  | true =>
    rw [if_pos rfl]
    wp_walk using wpAny_loadPart' hl1, wpAny_loadPart' hb1, wpAny_forIn_list _ (fun rest b s' => b.1 = none ∧ ∃ i, rest = (xs.toList.zip ys.toList).drop i ∧ i ≤ min xs.size ys.size ∧ I i s') _
    case turn =>
      rintro ⟨y, x⟩ rest b s' ⟨hb', i, hz, hi, hI⟩
      have hlt : i < (xs.toList.zip ys.toList).length := by
        rcases Nat.lt_or_ge i (xs.toList.zip ys.toList).length with h' | h'
        · exact h'
        · rw [List.drop_of_length_le h'] at hz; cases hz
      have hm : i < min xs.size ys.size := hZ ▸ hlt
      have h1 : i < xs.size := Nat.lt_of_lt_of_le hm (Nat.min_le_left _ _)
      have h2 : i < ys.size := Nat.lt_of_lt_of_le hm (Nat.min_le_right _ _)
      rw [List.drop_eq_getElem_cons hlt] at hz
      injection hz with hyx hrest
      have hy : y = xs[i] := by have := congrArg Prod.fst hyx; simpa using this
      have hx : x = ys[i] := by have := congrArg Prod.snd hyx; simpa using this
      subst hy hx
      refine wpAny_bind (wpAny_mono (turn i h1 h2 s' hI) (fun r s2 q2 => ?_) fun _ _ x => x)
      cases r with
      | true =>
        rw [if_pos rfl] at q2
        wp_walk
        exact ⟨rfl, i + 1, hrest, hm, q2⟩
      | false =>
        rw [if_neg (by decide)] at q2
        have q3 := hJ i s2 q2
        wp_walk
        exact q3
    case fin =>
      rintro ⟨b1, b2⟩ s' ⟨hb', i, hz, hi, hI⟩
      simp only at hb'
      subst hb'
      have hge : min xs.size ys.size ≤ i := by
        rcases Nat.lt_or_ge i (xs.toList.zip ys.toList).length with h' | h'
        · rw [List.drop_eq_getElem_cons h'] at hz; cases hz
        · exact hZ ▸ h'
      have hi' : i = min xs.size ys.size := by omega
      have hR := fin s' (hi' ▸ hI)
      wp_walk
      simpa [Builtin.Tuple.tupleCompareSizes, bne] using hR
    case h =>
      exact ⟨rfl, 0, rfl, Nat.zero_le _, h0⟩
end
section
variable {prog : Program} {w : World} {A : Around} {E : Value → Shared → Prop} {s : Shared}
def opC (ne : Bool) : CmpOp := if ne then .NotEq else .Eq
theorem rcL (ne : Bool) {l b : Addr} {N : Nat} {Q : Value → Shared → Prop} (hu : A.units < cLine) (I J : Nat → Shared → Prop)
    (hl : ∀ i s, I i s → ∃ xs ys, Two s l b N xs ys ∧ ∀ (h1 : i < xs.size) (h2 : i < ys.size), wpAny (model prog w) A.in1 (eqBool xs[i] ys[i]) (fun r s' => if r = true then I (i + 1) s' else J i s') E s)
    (hJ : ∀ i s, J i s → (∃ xs ys, Two s l b N xs ys) ∧ Q (.bool ne) s)
    (fin : ∀ s, I N s → Q (.bool (!ne)) s) (h : I 0 s) : wpAny (model prog w) A (richCompare (opC ne) (.ref l) (.ref b)) Q E s := by
  obtain ⟨xs, ys, ⟨⟨n, hl1⟩, ⟨n2, hb1⟩, _, _⟩, _⟩ := hl _ _ h
  have key := listB (prog := prog) (w := w) (A := A) (R := wants (fun v s' => v ≠ .notImplemented ∧ Q v s') E) ne l b N I J hl (fun i s' q => ⟨(hJ i s' q).1, (fun x => nomatch x), (hJ i s' q).2⟩) (fun s' q => ⟨(fun x => nomatch x), fin s' q⟩) h
  cases ne with
  | false => exact wpAny_richCompare_same_room (op := .Eq) ⟨_, hl1, rfl⟩ ⟨_, hb1, rfl⟩ F.slot_list_eq (GQ.call_here F.slot_list_eq ⟨_, hl1, rfl⟩ F.entry_list_eq (F.args_list_eq_2 _ _) key) hu
  | true => exact wpAny_richCompare_same_room (op := .NotEq) ⟨_, hl1, rfl⟩ ⟨_, hb1, rfl⟩ F.slot_list_ne (GQ.call_here F.slot_list_ne ⟨_, hl1, rfl⟩ F.entry_list_ne (F.args_list_ne_2 _ _) key) hu
theorem rcU (ne : Bool) {l b : Addr} {xs ys : Array Value} {n n2 : Nat} {Q : Value → Shared → Prop} (hu : A.units < cLine) (hl1 : s.heap.get? l = some { cls := .type "list", data := .seq xs n }) (hb1 : s.heap.get? b = some { cls := .type "list", data := .seq ys n2 }) (hz : xs.size ≠ ys.size)
    (h : Q (.bool ne) s) : wpAny (model prog w) A (richCompare (opC ne) (.ref l) (.ref b)) Q E s := by
  have key := listU (prog := prog) (w := w) (A := A) (R := wants (fun v s' => v ≠ .notImplemented ∧ Q v s') E) ne hl1 hb1 hz ⟨(fun x => nomatch x), h⟩
  cases ne with
  | false => exact wpAny_richCompare_same_room (op := .Eq) ⟨_, hl1, rfl⟩ ⟨_, hb1, rfl⟩ F.slot_list_eq (GQ.call_here F.slot_list_eq ⟨_, hl1, rfl⟩ F.entry_list_eq (F.args_list_eq_2 _ _) key) hu
  | true => exact wpAny_richCompare_same_room (op := .NotEq) ⟨_, hl1, rfl⟩ ⟨_, hb1, rfl⟩ F.slot_list_ne (GQ.call_here F.slot_list_ne ⟨_, hl1, rfl⟩ F.entry_list_ne (F.args_list_ne_2 _ _) key) hu
theorem rcT (ne : Bool) {l b : Addr} {xs ys : Array Value} {Q : Value → Shared → Prop} (hu : A.units < cLine) (I J : Nat → Shared → Prop) (ha : s.heap.IsTuple l xs) (hb : s.heap.IsTuple b ys)
    (turn : ∀ i (h1 : i < xs.size) (h2 : i < ys.size) s, I i s → wpAny (model prog w) A.in1 (eqBool xs[i] ys[i]) (fun r s' => if r = true then I (i + 1) s' else J i s') E s)
    (hJ : ∀ i s, J i s → Q (.bool ne) s) (fin : ∀ s, I (min xs.size ys.size) s → Q (.bool ((xs.size == ys.size) != ne)) s) (h : I 0 s) : wpAny (model prog w) A (richCompare (opC ne) (.ref l) (.ref b)) Q E s := by
  obtain ⟨⟨cls, dd, data, sl⟩, ho, hc, n, hd⟩ := id ha
  obtain ⟨⟨cls2, dd2, data2, sl2⟩, ho2, hc2, n2, hd2⟩ := id hb
  simp only at hc hd hc2 hd2
  subst hc hd hc2 hd2
  have key := tupB (prog := prog) (w := w) (A := A) (R := wants (fun v s' => v ≠ .notImplemented ∧ Q v s') E) ne l b xs ys n n2 dd dd2 sl sl2 I J turn (fun i s' q => ⟨(fun x => nomatch x), hJ i s' q⟩) (fun s' q => ⟨(fun x => nomatch x), fin s' q⟩) ho ho2 h
  cases ne with
  | false => exact wpAny_richCompare_same_room (op := .Eq) ⟨_, ho, rfl⟩ ⟨_, ho2, rfl⟩ F.slot_tuple_eq (GQ.call_here F.slot_tuple_eq ⟨_, ho, rfl⟩ F.entry_tuple_eq (F.args_tuple_eq_2 _ _) key) hu
  | true => exact wpAny_richCompare_same_room (op := .NotEq) ⟨_, ho, rfl⟩ ⟨_, ho2, rfl⟩ F.slot_tuple_ne (GQ.call_here F.slot_tuple_ne ⟨_, ho, rfl⟩ F.entry_tuple_ne (F.args_tuple_ne_2 _ _) key) hu
end
end DQ
end

section
set_option Elab.async false
set_option linter.all false
set_option maxRecDepth 100000
set_option maxHeartbeats 4000000
/-! DL: == and != of data. -/
namespace DL
open PySem PySem.Spec PyProof.Rows L2
open Evl (Ex)
def flV : D → Option V
  | .non => some .non
  | .bl b => some (.bl b)
  | .int i => some (.int i)
  | .str x => some (.str x)
  | _ => none
def flatQ (x y : D) : Option Bool := match flV x, flV y with
  | some v, some u => some (eqV v u)
  | _, _ => none
/-- item by item, lists of one length -/
def eqL (f : D → D → Option Bool) : List D → List D → Option Bool
  | x :: xs, y :: ys => match f x y with
    | some true => eqL f xs ys
    | r => r
  | [], [] => some true
  | _, _ => none
/-- item by item, then the lengths -/
def eqT (f : D → D → Option Bool) : List D → List D → Option Bool
  | x :: xs, y :: ys => match f x y with
    | some true => eqT f xs ys
    | r => r
  | [], [] => some true
  | _, _ => some false
/-- x == y by data; u: of instances; none: nothing is said -/
def deq (u : Nat → List D → List D → Option Bool) : Nat → D → D → Option Bool
  | 0, x, y => flatQ x y
  | n + 1, x, y => match x, y with
    | .lst a, .lst b => if a.length = b.length then eqL (deq u n) a b else some false
    | .tup a, .tup b => eqT (deq u n) a b
    | .ins c fs, .ins c' gs => if c = c' then u c fs gs else none
    | x, y => flatQ x y
/-- the own == of the classes -/
structure UEq (X : Cx) (cs : CT) (k : Nat) (u : Nat → List D → List D → Option Bool) : Prop where
  of : ∀ c fs gs b, u c fs gs = some b → ∃ C fn f fd ps fm, ClsAt X.K cs c C fn ∧ PySem.W.findIn X.K (.ref C) "__eq__" = some (some (.ref f)) ∧ PySem.W.isFn X.K (.ref f) = true ∧ FnD false X.prog X.w X.K X.mg X.base k f fd ps (spD X.K cs 2 fm) ∧ Binds X.K fd ps [] ∧ ∀ p, fm [.ins c fs, .ins c gs] p = some (.bl b, p)
  rf : ∀ c fs b, u c fs fs = some b → b = true
  inj : ∀ c c' C fn fn', cs c = some (C, fn) → cs c' = some (C, fn') → c = c'

section
variable {K : PySem.W.Frag} {cs : CT} {ap : Addr} {B : Hp}
/-- a value is one datum -/
theorem rep_inj (hinj : ∀ c c' C fn fn', cs c = some (C, fn) → cs c' = some (C, fn') → c = c') (hT : ∀ a xs ys, SqT K B a xs → SqT K B a ys → xs = ys) (hL : ∀ a zs, B a = some (.lst zs) → ∀ ys, ¬ SqT K B a ys) (hI : ∀ a C dx fs, B a = some (.ins C dx fs) → ∀ ys, ¬ SqT K B a ys) (hK : ∀ a kvs, B a = some (.dK kvs) → ∀ ys, ¬ SqT K B a ys) (hP : ∀ ys, ¬ SqT K B ap ys) (hB : B ap = none) :
    ∀ d, ∀ e v, Rep K cs ap B d v → Rep K cs ap B e v → d = e := by
  intro d
  refine D.rec (motive_1 := fun d => ∀ e v, Rep K cs ap B d v → Rep K cs ap B e v → d = e) (motive_2 := fun ds => ∀ es xs, Reps K cs ap B ds xs → Reps K cs ap B es xs → ds = es) ?_ ?_ ?_ ?_ ?_ ?_ ?_ ?_ ?_ ?_ ?_ d
  · intro e v h h'
    simp only [Rep] at h
    subst h
    cases e <;> simp only [Rep] at h' <;> first | rfl | (cases h'; done) | (obtain ⟨_, z, _⟩ := h'; exact absurd z (fun y => nomatch y)) | (obtain ⟨_, _, z, _⟩ := h'; exact absurd z (fun y => nomatch y)) | (obtain ⟨_, _, _, _, _, z, _⟩ := h'; exact absurd z (fun y => nomatch y))
  · intro b e v h h'
    simp only [Rep] at h
    subst h
    cases e <;> simp only [Rep] at h' <;> first | (cases h'; rfl) | (cases h'; done) | (obtain ⟨_, z, _⟩ := h'; exact absurd z (fun y => nomatch y)) | (obtain ⟨_, _, z, _⟩ := h'; exact absurd z (fun y => nomatch y)) | (obtain ⟨_, _, _, _, _, z, _⟩ := h'; exact absurd z (fun y => nomatch y))
  · intro b e v h h'
    simp only [Rep] at h
    subst h
    cases e <;> simp only [Rep] at h' <;> first | (cases h'; rfl) | (cases h'; done) | (obtain ⟨_, z, _⟩ := h'; exact absurd z (fun y => nomatch y)) | (obtain ⟨_, _, z, _⟩ := h'; exact absurd z (fun y => nomatch y)) | (obtain ⟨_, _, _, _, _, z, _⟩ := h'; exact absurd z (fun y => nomatch y))
  · intro b e v h h'
    simp only [Rep] at h
    subst h
    cases e <;> simp only [Rep] at h' <;> first | (cases h'; rfl) | (cases h'; done) | (obtain ⟨_, z, _⟩ := h'; exact absurd z (fun y => nomatch y)) | (obtain ⟨_, _, z, _⟩ := h'; exact absurd z (fun y => nomatch y)) | (obtain ⟨_, _, _, _, _, z, _⟩ := h'; exact absurd z (fun y => nomatch y))
  · intro ds ih e v h h'
    simp only [Rep] at h
    obtain ⟨a, xs, rfl, h1, h2⟩ := h
    cases e <;> simp only [Rep] at h' <;> first | (cases h'; done) | skip
    · obtain ⟨a', ys, z, g1, g2⟩ := h'
      cases z
      rw [h1] at g1
      cases g1
      rw [ih _ _ h2 g2]
    · obtain ⟨a', ys, z, g1, g2⟩ := h'
      cases z
      exact absurd g1 (hL _ _ h1 _)
    · obtain ⟨a', C, fn, dx, fs, z, g0, g1, g2⟩ := h'
      cases z
      rw [h1] at g1
      cases g1
    · cases h'
      rw [hB] at h1
      cases h1
    · obtain ⟨a', z, g1⟩ := h'
      cases z
      rw [h1] at g1
      cases g1
  · intro ds ih e v h h'
    simp only [Rep] at h
    obtain ⟨a, xs, rfl, h1, h2⟩ := h
    cases e <;> simp only [Rep] at h' <;> first | (cases h'; done) | skip
    · obtain ⟨a', ys, z, g1, g2⟩ := h'
      cases z
      exact absurd h1 (hL _ _ g1 _)
    · obtain ⟨a', ys, z, g1, g2⟩ := h'
      cases z
      rw [hT _ _ _ h1 g1] at h2
      rw [ih _ _ h2 g2]
    · obtain ⟨a', C, fn, dx, fs, z, g0, g1, g2⟩ := h'
      cases z
      exact absurd h1 (hI _ _ _ _ g1 _)
    · cases h'
      exact absurd h1 (hP _)
    · obtain ⟨a', z, g1⟩ := h'
      cases z
      exact absurd h1 (hK _ _ g1 _)
  · intro c ds ih e v h h'
    simp only [Rep] at h
    obtain ⟨a, C, fn, dx, fs, rfl, h0, h1, h2, h3⟩ := h
    cases e <;> simp only [Rep] at h' <;> first | (cases h'; done) | skip
    · obtain ⟨a', ys, z, g1, g2⟩ := h'
      cases z
      rw [h1] at g1
      cases g1
    · obtain ⟨a', ys, z, g1, g2⟩ := h'
      cases z
      exact absurd g1 (hI _ _ _ _ h1 _)
    · obtain ⟨a', C', fn', dx', fs', z, g0, g1, g2, g3⟩ := h'
      cases z
      rw [h1] at g1
      cases g1
      rw [hinj _ _ _ _ _ h0 g0, ih _ _ h3 g3]
    · cases h'
      rw [hB] at h1
      cases h1
    · obtain ⟨a', z, g1⟩ := h'
      cases z
      rw [h1] at g1
      cases g1
  · intro e v h h'
    simp only [Rep] at h
    subst h
    cases e <;> simp only [Rep] at h' <;> first | rfl | (cases h'; done) | skip
    · obtain ⟨a', ys, z, g1, g2⟩ := h'
      cases z
      rw [hB] at g1
      cases g1
    · obtain ⟨a', ys, z, g1, g2⟩ := h'
      cases z
      exact absurd g1 (hP _)
    · obtain ⟨a', C, fn, dx, fs, z, g0, g1, g2⟩ := h'
      cases z
      rw [hB] at g1
      cases g1
    · obtain ⟨a', z, g1⟩ := h'
      cases z
      rw [hB] at g1
      cases g1
  · intro e v h h'
    simp only [Rep] at h
    obtain ⟨a, rfl, h1⟩ := h
    cases e <;> simp only [Rep] at h' <;> first | rfl | (cases h'; done) | skip
    · obtain ⟨a', ys, z, g1, g2⟩ := h'
      cases z
      rw [h1] at g1
      cases g1
    · obtain ⟨a', ys, z, g1, g2⟩ := h'
      cases z
      exact absurd g1 (hK _ _ h1 _)
    · obtain ⟨a', C, fn, dx, fs, z, g0, g1, g2⟩ := h'
      cases z
      rw [h1] at g1
      cases g1
    · cases h'
      rw [hB] at h1
      cases h1
  · intro es xs h h'
    simp only [Reps] at h
    subst h
    cases es with
    | nil => rfl
    | cons d ds => simp only [Reps] at h'; obtain ⟨_, _, z, _⟩ := h'; cases z
  · intro d ds i1 i2 es xs h h'
    simp only [Reps] at h
    obtain ⟨x, r, rfl, h1, h2⟩ := h
    cases es with
    | nil => simp only [Reps] at h'; cases h'
    | cons e es =>
      simp only [Reps] at h'
      obtain ⟨x', r', z, g1, g2⟩ := h'
      cases z
      rw [i1 _ _ h1 g1, i2 _ _ h2 g2]
end
section
variable {X : Cx} {cs : CT} {pins : List (Addr × Obj)} {σ : L2.St} {H : Hp} {s : Shared} {ap : Addr} {B : Hp} {p : Pt}
theorem tup_cls (I : Inv X pins σ H s) {a : Addr} {xs : List V} (h : SqT X.K H a xs) : ∃ o, s.heap.get? a = some o ∧ o.cls = .type "tuple" := by
  obtain ⟨its, r, ⟨o, h1, h2, _⟩, _⟩ := I.tuple h
  exact ⟨o, h1, h2⟩
theorem obj_cls (I : Inv X pins σ H s) {a : Addr} {xs ys : List V} (h : H a = some (.lst xs)) : ¬ SqT X.K H a ys := fun z => by
  obtain ⟨o, h1, h2⟩ := tup_cls I z
  obtain ⟨_, its, n, _, h3⟩ := (show ObjOk X.prog X.w H s.heap a (.lst xs) from I.hok a _ h)
  rw [h1] at h3
  cases h3
  exact absurd (Value.type.inj h2) (by decide)
theorem ins_cls (I : Inv X pins σ H s) {a C dx : Addr} {fs : List (Str × V)} {ys : List V} (h : H a = some (.ins C dx fs)) : ¬ SqT X.K H a ys := fun z => by
  obtain ⟨o, h1, h2⟩ := tup_cls I z
  obtain ⟨mA, J, _⟩ := ins_get I.hok h
  obtain ⟨od, J, _⟩ := J.look
  have e := J.at_
  rw [h1] at e
  cases e
  have e2 := J.cls
  rw [h2] at e2
  cases e2
theorem dK_cls (I : Inv X pins σ H s) {a : Addr} {kvs : List (Key × V)} {ys : List V} (h : H a = some (.dK kvs)) : ¬ SqT X.K H a ys := fun z => by
  obtain ⟨o, h1, h2⟩ := tup_cls I z
  obtain ⟨_, _, vs, _, o', es, ep, k1, k2, _⟩ := dk_of I.hok h
  rw [h1] at k1
  cases k1
  have e2 := k2.1
  rw [h2] at e2
  exact absurd (Value.type.inj e2) (by decide)
/-- by the state: a value is one datum -/
theorem rep_one (I : Inv X pins σ H s) (hinj : ∀ c c' C fn fn', cs c = some (C, fn) → cs c' = some (C, fn') → c = c') (e : Ex B H) (hp : PotAt ap H p) (hb : B ap = none) {d d' : D} {v : V} (h : Rep X.K cs ap B d v) (h' : Rep X.K cs ap B d' v) : d = d' :=
  rep_inj hinj (fun a xs ys z z' => I.tuple_inj (Evl.ex_t e z) (Evl.ex_t e z')) (fun a zs z ys y => obj_cls (ys := ys) I (e _ _ z) (Evl.ex_t e y)) (fun a C dx fs z ys y => ins_cls (ys := ys) I (e _ _ z) (Evl.ex_t e y)) (fun a kvs z ys y => dK_cls (ys := ys) I (e _ _ z) (Evl.ex_t e y)) (fun ys y => obj_cls (ys := ys) I hp (Evl.ex_t e y)) hb d d' v h h'
theorem eqV_refl (v : V) (h : flatV v = true) : eqV v v = true := by
  cases v <;> simp [flatV] at h <;> simp [eqV]
theorem flat_refl {d : D} {b : Bool} (h : flatQ d d = some b) : b = true := by
  unfold flatQ at h
  cases d <;> simp [flV, eqV] at h <;> first | exact h.symm | exact h
theorem eqL_refl {f : D → D → Option Bool} (hf : ∀ d b, f d d = some b → b = true) : ∀ {ds : List D} {b : Bool}, eqL f ds ds = some b → b = true
  | [], b, h => by cases h; rfl
  | d :: ds, b, h => by
    unfold eqL at h
    rcases z : f d d with _ | _ | _
    · rw [z] at h; cases h
    · exact absurd (hf _ _ z) (by decide)
    · rw [z] at h; exact eqL_refl hf h
theorem eqT_refl {f : D → D → Option Bool} (hf : ∀ d b, f d d = some b → b = true) : ∀ {ds : List D} {b : Bool}, eqT f ds ds = some b → b = true
  | [], b, h => by cases h; rfl
  | d :: ds, b, h => by
    unfold eqT at h
    rcases z : f d d with _ | _ | _
    · rw [z] at h; cases h
    · exact absurd (hf _ _ z) (by decide)
    · rw [z] at h; exact eqT_refl hf h
theorem deq_refl {u : Nat → List D → List D → Option Bool} (hu : ∀ c fs b, u c fs fs = some b → b = true) : ∀ n d b, deq u n d d = some b → b = true
  | 0, d, b, h => flat_refl h
  | n + 1, d, b, h => by
    unfold deq at h
    cases d with
    | lst ds => dsimp only at h; rw [if_pos rfl] at h; exact eqL_refl (deq_refl hu n) h
    | tup ds => exact eqT_refl (deq_refl hu n) h
    | ins c ds => dsimp only at h; rw [if_pos rfl] at h; exact hu _ _ _ h
    | _ => exact flat_refl h
/-- behind a comparison: more may be known -/
def Aft (X : Cx) (pins : List (Addr × Obj)) (σ : L2.St) (ap : Addr) (B H : Hp) (p : Pt) (s' : Shared) : Prop := ∃ B' H', Inv X pins σ H' s' ∧ Nxt ap B H B' H' ∧ PotAt ap H' p
theorem rep_flat {d : D} {v w : V} (h : flV d = some w) (r : Rep X.K cs ap B d v) : v = w ∧ flatV v = true := by
  cases d <;> simp only [flV] at h <;> first | (cases h; done) | (cases h; simp only [Rep] at r; subst r; exact ⟨rfl, rfl⟩)
/-- u == v by the model, behind the data -/
def EqS (X : Cx) (cs : CT) (n : Nat) (f : D → D → Option Bool) : Prop :=
  ∀ (A : Around) (pins : List (Addr × Obj)) (s : Shared) (σ : L2.St) (H B : Hp) (ap : Addr) (p : Pt) (x y : D) (v w : V) (v' w' : Value) (b : Bool), Sub X n A → Inv X pins σ H s → Ex B H → PotAt ap H p → B ap = none → Rep X.K cs ap B x v → Rep X.K cs ap B y w → L2.RelV v v' → L2.RelV w w' → f x y = some b →
    wpAny (model X.prog X.w) A (eqBool v' w') (fun r s' => r = b ∧ Aft X pins σ ap B H p s') X.xe s
/-- v == u, v != u as an expression -/
def RcS (X : Cx) (cs : CT) (n : Nat) (f : D → D → Option Bool) : Prop :=
  ∀ (ne : Bool) (A : Around) (pins : List (Addr × Obj)) (s : Shared) (σ : L2.St) (H B : Hp) (ap : Addr) (p : Pt) (x y : D) (v w : V) (v' w' : Value) (b : Bool), Sub X n A → Inv X pins σ H s → Ex B H → PotAt ap H p → B ap = none → Rep X.K cs ap B x v → Rep X.K cs ap B y w → L2.RelV v v' → L2.RelV w w' → f x y = some b →
    wpAny (model X.prog X.w) A (richCompare (DQ.opC ne) v' w') (fun r s' => r = .bool (b != ne) ∧ Aft X pins σ ap B H p s') X.xe s
theorem eqS_flat : EqS X cs 0 flatQ := by
  intro A pins s σ H B ap p x y v w v' w' b sb I e hp hb rx ry rv rw' h
  unfold flatQ at h
  cases hx : flV x with
  | none => rw [hx] at h; cases h
  | some v1 =>
    cases hy : flV y with
    | none => rw [hx, hy] at h; cases h
    | some w1 =>
      rw [hx, hy] at h
      cases h
      obtain ⟨rfl, f1⟩ := rep_flat hx rx
      obtain ⟨rfl, f2⟩ := rep_flat hy ry
      exact eqAt_V (A := A) (s := s) rv rw' f1 f2 X.prog X.w X.xe _ ⟨rfl, B, H, I, Nxt.refl e, hp⟩
/-- one turn in a list's or a tuple's comparison -/
theorem eq_turn {n : Nat} {f : D → D → Option Bool} (h : EqS X cs n f) {A : Around} (sb : Sub X (n + 1) A) (g : (D → D → Option Bool) → List D → List D → Option Bool) (hg : ∀ x xs y ys, g f (x :: xs) (y :: ys) = match f x y with | some true => g f xs ys | r => r)
    {xs ys : List D} {vs ws : List V} {its its2 : List Value} (hp : PotAt ap H p) (hb : B ap = none) (r1 : Reps X.K cs ap B xs vs) (r2 : Reps X.K cs ap B ys ws) (r : Vals vs its) (r' : Vals ws its2) {b : Bool}
    (i : Nat) (h1 : i < its.toArray.size) (h2 : i < its2.toArray.size) (s' : Shared) (l : Aft X pins σ ap B H p s' ∧ g f (xs.drop i) (ys.drop i) = some b) :
    wpAny (model X.prog X.w) A.in1 (eqBool its.toArray[i] its2.toArray[i]) (fun r s2 => if r = true then Aft X pins σ ap B H p s2 ∧ g f (xs.drop (i + 1)) (ys.drop (i + 1)) = some b else Aft X pins σ ap B H p s2 ∧ b = false) X.xe s' := by
  obtain ⟨⟨B1, H1, I1, n1, hp1⟩, hq⟩ := l
  have g1 : its[i]? = some its.toArray[i] := by
    have h1' : i < its.length := by simpa using h1
    rw [List.getElem?_eq_getElem h1'] <;> simp
  have g2 : its2[i]? = some its2.toArray[i] := by
    have h2' : i < its2.length := by simpa using h2
    rw [List.getElem?_eq_getElem h2'] <;> simp
  have k1 : i < vs.length := by rw [r.length]; simpa using h1
  have k2 : i < ws.length := by rw [r'.length]; simpa using h2
  have j1 : i < xs.length := by rw [← r1.length]; exact k1
  have j2 : i < ys.length := by rw [← r2.length]; exact k2
  obtain ⟨u, hu, ru⟩ := r.get (List.getElem?_eq_getElem k1)
  obtain ⟨v, hv, rv⟩ := r'.get (List.getElem?_eq_getElem k2)
  rw [g1] at hu
  rw [g2] at hv
  rw [Option.some.inj hu, Option.some.inj hv]
  obtain ⟨x, hx, rx⟩ := r1.get (List.getElem?_eq_getElem j1)
  obtain ⟨y, hy, ry⟩ := r2.get (List.getElem?_eq_getElem j2)
  rw [List.getElem?_eq_getElem k1] at hx
  rw [List.getElem?_eq_getElem k2] at hy
  rw [Option.some.inj hx] at ru
  rw [Option.some.inj hy] at rv
  rw [List.drop_eq_getElem_cons j1, List.drop_eq_getElem_cons j2, hg] at hq
  have hbB : B1 ap = none := n1.nw _ (by rw [show H ap = _ from hp]; exact (fun z => nomatch z)) hb
  rcases z : f xs[i] ys[i] with _ | b'
  · rw [z] at hq; cases hq
  · rw [z] at hq
    refine wpAny_mono (h A.in1 pins s' σ H1 B1 ap p _ _ _ _ _ _ b' sb.in1 I1 n1.bh hp1 hbB (rx.mono n1.bb) (ry.mono n1.bb) ru rv z) (fun r s2 q => ?_) fun _ _ x => x
    obtain ⟨rfl, B2, H2, I2, n2, hp2⟩ := q
    have a2 : Aft X pins σ ap B H p s2 := ⟨B2, H2, I2, n1.trans n2, hp2⟩
    cases r with
    | true => rw [if_pos rfl]; exact ⟨a2, hq⟩
    | false => rw [if_neg (by decide)]; cases hq; exact ⟨a2, rfl⟩
theorem eqL_end {f : D → D → Option Bool} : ∀ {xs ys : List D} {b : Bool}, eqL f xs ys = some b → xs = [] ∨ ys = [] → b = true
  | [], [], b, h, _ => by cases h; rfl
  | [], y :: ys, b, h, _ => by cases h
  | x :: xs, [], b, h, _ => by cases h
  | x :: xs, y :: ys, b, h, z => by rcases z with z | z <;> cases z
theorem eqT_end {f : D → D → Option Bool} : ∀ {xs ys : List D} {b : Bool}, eqT f xs ys = some b → xs = [] ∨ ys = [] → b = (xs.length == ys.length)
  | [], [], b, h, _ => by cases h; rfl
  | [], y :: ys, b, h, _ => by cases h; rfl
  | x :: xs, [], b, h, _ => by cases h; rfl
  | x :: xs, y :: ys, b, h, z => by rcases z with z | z <;> cases z
theorem bne_flip (b : Bool) : (true != b) = !b := by cases b <;> rfl
theorem bne_f (b : Bool) : (false != b) = b := by cases b <;> rfl
/-- == of list, tuple, instance -/
theorem rcS_step {n k : Nat} {f : D → D → Option Bool} {u : Nat → List D → List D → Option Bool} (h : EqS X cs n f) (U : UEq X cs k u) (hk : k ≤ n + 1) {ne : Bool} {A : Around} {pins : List (Addr × Obj)} {s : Shared} {σ : L2.St} {H B : Hp} {ap : Addr} {p : Pt} {x y : D} {v w : V} {v' w' : Value} {b : Bool} (sb : Sub X (n + 1) A) (I : Inv X pins σ H s) (e : Ex B H) (hp : PotAt ap H p) (hb : B ap = none)
    (rx : Rep X.K cs ap B x v) (ry : Rep X.K cs ap B y w) (rv : L2.RelV v v') (rw' : L2.RelV w w')
    (hq : (∃ xs ys, x = .lst xs ∧ y = .lst ys ∧ (if xs.length = ys.length then eqL f xs ys else some false) = some b) ∨ (∃ xs ys, x = .tup xs ∧ y = .tup ys ∧ eqT f xs ys = some b) ∨ ∃ c fs gs, x = .ins c fs ∧ y = .ins c gs ∧ u c fs gs = some b ∧ ne = false) :
    wpAny (model X.prog X.w) A (richCompare (DQ.opC ne) v' w') (fun r s' => r = .bool (b != ne) ∧ Aft X pins σ ap B H p s') X.xe s := by
  have a0 : Aft X pins σ ap B H p s := ⟨B, H, I, Nxt.refl e, hp⟩
  rcases hq with ⟨xs, ys, rfl, rfl, hq⟩ | ⟨xs, ys, rfl, rfl, hq⟩ | ⟨c, fs, gs, rfl, rfl, hq, rfl⟩
  · simp only [Rep] at rx ry
    obtain ⟨l, vs, rfl, h1, r1⟩ := rx
    obtain ⟨l', ws, rfl, h2, r2⟩ := ry
    cases rv
    cases rw'
    have two : ∀ s', Aft X pins σ ap B H p s' → ∃ its its2 : List Value, Vals vs its ∧ Vals ws its2 ∧ (∃ k, s'.heap.get? l = some { cls := .type "list", data := .seq its.toArray k }) ∧ (∃ k, s'.heap.get? l' = some { cls := .type "list", data := .seq its2.toArray k }) := fun s' ⟨B1, H1, I1, n1, hp1⟩ => by
      obtain ⟨z, its, k, r, e1⟩ := I1.hok l _ (n1.bh _ _ (n1.bb _ _ h1))
      obtain ⟨z2, its2, k2, r2, e2⟩ := I1.hok l' _ (n1.bh _ _ (n1.bb _ _ h2))
      exact ⟨its, its2, r, r2, ⟨k, e1⟩, ⟨k2, e2⟩⟩
    by_cases hz : xs.length = ys.length
    · rw [if_pos hz] at hq
      refine DQ.rcL ne (N := vs.length) sb.room.units0 (fun i s' => Aft X pins σ ap B H p s' ∧ eqL f (xs.drop i) (ys.drop i) = some b) (fun _ s' => Aft X pins σ ap B H p s' ∧ b = false) (fun i s' q => ?_) (fun i s' q => ?_) (fun s' q => ?_) ⟨a0, hq⟩
      · obtain ⟨its, its2, r, r', k1, k2⟩ := two s' q.1
        exact ⟨its.toArray, its2.toArray, ⟨k1, k2, by rw [List.size_toArray, ← r.length], by rw [List.size_toArray, ← r'.length, r2.length, r1.length, hz]⟩, fun g1 g2 => eq_turn h sb eqL (fun _ _ _ _ => rfl) hp hb r1 r2 r r' i g1 g2 s' q⟩
      · obtain ⟨its, its2, r, r', k1, k2⟩ := two s' q.1
        exact ⟨⟨its.toArray, its2.toArray, k1, k2, by rw [List.size_toArray, ← r.length], by rw [List.size_toArray, ← r'.length, r2.length, r1.length, hz]⟩, by rw [q.2, bne_f], q.1⟩
      · have : b = true := eqL_end q.2 (.inl (List.drop_eq_nil_of_le (by rw [r1.length]; exact Nat.le_refl _)))
        exact ⟨by rw [this, bne_flip], q.1⟩
    · rw [if_neg hz] at hq
      cases hq
      obtain ⟨its, its2, r, r', ⟨k1, e1⟩, ⟨k2, e2⟩⟩ := two s a0
      exact DQ.rcU ne sb.room.units0 e1 e2 (by rw [List.size_toArray, List.size_toArray, ← r.length, ← r'.length, r2.length, r1.length]; exact hz) ⟨by rw [bne_f], a0⟩
  · simp only [Rep] at rx ry
    obtain ⟨l, vs, rfl, h1, r1⟩ := rx
    obtain ⟨l', ws, rfl, h2, r2⟩ := ry
    cases rv
    cases rw'
    obtain ⟨its, r, e1, z⟩ := I.tuple (Evl.ex_t e h1)
    obtain ⟨its2, r', e2, z2⟩ := I.tuple (Evl.ex_t e h2)
    refine DQ.rcT ne sb.room.units0 (fun i s' => Aft X pins σ ap B H p s' ∧ eqT f (xs.drop i) (ys.drop i) = some b) (fun _ s' => Aft X pins σ ap B H p s' ∧ b = false) e1 e2 (fun i g1 g2 s' q => eq_turn h sb eqT (fun _ _ _ _ => rfl) hp hb r1 r2 r r' i g1 g2 s' q) (fun i s' q => ⟨by rw [q.2, bne_f], q.1⟩) (fun s' q => ⟨?_, q.1⟩) ⟨a0, hq⟩
    have l1 : its.length = xs.length := by rw [← r.length, r1.length]
    have l2 : its2.length = ys.length := by rw [← r'.length, r2.length]
    have q2 := q.2
    rw [List.size_toArray, List.size_toArray, l1, l2] at q2
    have hb2 := eqT_end q2 (by
      rcases Nat.le_total xs.length ys.length with g | g
      · rw [Nat.min_eq_left g]; exact .inl (List.drop_eq_nil_of_le (Nat.le_refl _))
      · rw [Nat.min_eq_right g]; exact .inr (List.drop_eq_nil_of_le (Nat.le_refl _)))
    rw [List.length_drop, List.length_drop] at hb2
    rw [List.size_toArray, List.size_toArray, l1, l2, hb2]
    congr 2
    rw [Bool.eq_iff_iff, beq_iff_eq, beq_iff_eq]
    omega
  · obtain ⟨C, fn, f', fd, ps, fm, T, hs, hf, F, hbd, hfm⟩ := U.of c fs gs b hq
    obtain ⟨a', dx, fs', rfl, g1, g2, g3⟩ := rep_ins T rx
    obtain ⟨b', dy, gs', rfl, k1, k2, k3⟩ := rep_ins T ry
    cases rv
    cases rw'
    obtain ⟨mA, J, _⟩ := ins_get I.hok (e _ _ g1)
    obtain ⟨mB, J', _⟩ := ins_get I.hok (e _ _ k1)
    obtain ⟨od, J, _⟩ := J.look
    obtain ⟨od', J', _⟩ := J'.look
    obtain ⟨m, hF⟩ := I.fr
    refine PySem.W.cmp_K (op := .Eq) (tb := .ref C) sb.room.units0 hF I.ok.mod.kin J J'.type (by simp [PySem.W.notFirst]) hs hf ?_
    have hsp : spD X.K cs 2 fm [.ref a', .ref b'] H (fun v H' => v = .bl b ∧ ∃ B', Nxt ap B H B' H' ∧ PotAt ap H' p) E0 := ⟨ap, B, _, p, _, p, rfl, e, hp, hb, reps_cons rx (reps_cons ry reps_nil), hfm p, fun B' H' v n hp' r' => by
      simp only [Rep] at r'
      exact ⟨r', B', n, hp'⟩⟩
    have e0 : Env0 X.prog X.w X.K X.mg X.base A X.stack s H := by
      have z := I.env0
      exact ⟨by rw [sb.fr]; exact z.frames, z.mod, z.bs, z.bsz, z.funs, z.frf, z.hok, z.bare⟩
    have hl := F.len _ _ _ _ hsp
    have r2 : Vals [V.ref a', V.ref b'] [Value.ref a', Value.ref b'] := .cons rfl (.cons rfl .nil)
    refine wpAny_call (codeAny_mono (F.run A X.stack s H ⟨[.ref a', .ref b'], []⟩ [.ref a', .ref b'] [.ref a', .ref b'] _ E0 (sb.room.mono hk) (fun z => nomatch z) e0 (by
      have := hbd s [.ref a', .ref b'] I.kIn (by simpa using hl)
      simpa using this) r2 hsp) fun r s' hq => ?_)
    cases r with
    | error e => exact hq.elim
    | ok fl =>
      cases fl with
      | ret w =>
        obtain ⟨z, H', I', rz, ez, B', n', hp'⟩ := I.after hq
        subst ez
        cases rz
        exact ⟨by rw [show (b != false) = b by cases b <;> rfl], B', H', I', n', hp'⟩
      | next => exact hq.elim
      | brk => exact hq.elim
      | cont => exact hq.elim
theorem EqS.mono {n m : Nat} {f : D → D → Option Bool} (h : EqS X cs n f) (hn : n ≤ m) : EqS X cs m f := fun A pins s σ H B ap p x y v w v' w' b sb => h A pins s σ H B ap p x y v w v' w' b (sb.mono hn)
theorem deq_cases {u : Nat → List D → List D → Option Bool} {n : Nat} {x y : D} {b : Bool} (h : deq u (n + 1) x y = some b) :
    flatQ x y = some b ∨ (∃ xs ys, x = .lst xs ∧ y = .lst ys ∧ (if xs.length = ys.length then eqL (deq u n) xs ys else some false) = some b) ∨ (∃ xs ys, x = .tup xs ∧ y = .tup ys ∧ eqT (deq u n) xs ys = some b) ∨ ∃ c fs gs, x = .ins c fs ∧ y = .ins c gs ∧ u c fs gs = some b := by
  unfold deq at h
  split at h
  · exact .inr (.inl ⟨_, _, rfl, rfl, h⟩)
  · exact .inr (.inr (.inl ⟨_, _, rfl, rfl, h⟩))
  · split at h
    · rename_i hc
      subst hc
      exact .inr (.inr (.inr ⟨_, _, _, rfl, rfl, h⟩))
    · cases h
  · exact .inl h
theorem rep_ref {x y : D} {v w : V} {v' w' : Value} (h : (∃ xs ys, x = .lst xs ∧ y = .lst ys) ∨ (∃ xs ys, x = .tup xs ∧ y = .tup ys) ∨ ∃ c c' fs gs, x = .ins c fs ∧ y = .ins c' gs) (rx : Rep X.K cs ap B x v) (ry : Rep X.K cs ap B y w) : ∃ a b, v = .ref a ∧ w = .ref b := by
  rcases h with ⟨xs, ys, rfl, rfl⟩ | ⟨xs, ys, rfl, rfl⟩ | ⟨c, c', fs, gs, rfl, rfl⟩
  · simp only [Rep] at rx ry
    obtain ⟨a, _, h1, _⟩ := rx
    obtain ⟨b, _, h2, _⟩ := ry
    exact ⟨a, b, h1, h2⟩
  · simp only [Rep] at rx ry
    obtain ⟨a, _, h1, _⟩ := rx
    obtain ⟨b, _, h2, _⟩ := ry
    exact ⟨a, b, h1, h2⟩
  · simp only [Rep] at rx ry
    obtain ⟨a, _, _, _, _, h1, _⟩ := rx
    obtain ⟨b, _, _, _, _, h2, _⟩ := ry
    exact ⟨a, b, h1, h2⟩
theorem eqS_deq {k : Nat} {u : Nat → List D → List D → Option Bool} (U : UEq X cs k u) : ∀ n, EqS X cs (k + n) (deq u n)
  | 0 => EqS.mono eqS_flat (Nat.zero_le _)
  | n + 1 => by
    intro A pins s σ H B ap p x y v w v' w' b sb I e hp hb rx ry rv rw' h
    have key : ∀ (hr : ∃ a b, v = .ref a ∧ w = .ref b) (h2 : (∃ xs ys, x = .lst xs ∧ y = .lst ys ∧ (if xs.length = ys.length then eqL (deq u n) xs ys else some false) = some b) ∨ (∃ xs ys, x = .tup xs ∧ y = .tup ys ∧ eqT (deq u n) xs ys = some b) ∨ ∃ c fs gs, x = .ins c fs ∧ y = .ins c gs ∧ u c fs gs = some b),
        wpAny (model X.prog X.w) A (eqBool v' w') (fun r s' => r = b ∧ Aft X pins σ ap B H p s') X.xe s := by
      intro hr h2
      obtain ⟨a1, b1, rfl, rfl⟩ := hr
      cases rv
      cases rw'
      by_cases hab : a1 = b1
      · subst hab
        have hxy := rep_one I U.inj e hp hb rx ry
        subst hxy
        have hbt := deq_refl U.rf _ _ _ h
        subst hbt
        exact SeqAt.EqAt.same (A := A) (s := s) (.ref a1) X.prog X.w X.xe _ ⟨rfl, B, H, I, Nxt.refl e, hp⟩
      · refine GQ.eqBool_refG hab (wpAny_mono (rcS_step (ne := false) (n := k + n) (eqS_deq U n) U (by omega) sb I e hp hb rx ry rfl rfl (by
          rcases h2 with h2 | h2 | ⟨c, fs, gs, h3, h4, h5⟩
          · exact .inl h2
          · exact .inr (.inl h2)
          · exact .inr (.inr ⟨c, fs, gs, h3, h4, h5, rfl⟩))) (fun r s' q => ?_) fun _ _ x => x)
        exact ⟨b, by rw [q.1, show (b != false) = b by cases b <;> rfl], rfl, q.2⟩
    rcases deq_cases h with h1 | h1 | h1 | h1
    · exact EqS.mono eqS_flat (Nat.zero_le _) A pins s σ H B ap p x y v w v' w' b sb I e hp hb rx ry rv rw' h1
    · obtain ⟨xs, ys, hx, hy, _⟩ := id h1
      exact key (rep_ref (v' := v') (w' := w') (.inl ⟨xs, ys, hx, hy⟩) rx ry) (.inl h1)
    · obtain ⟨xs, ys, hx, hy, _⟩ := id h1
      exact key (rep_ref (v' := v') (w' := w') (.inr (.inl ⟨xs, ys, hx, hy⟩)) rx ry) (.inr (.inl h1))
    · obtain ⟨c, fs, gs, hx, hy, _⟩ := id h1
      exact key (rep_ref (v' := v') (w' := w') (.inr (.inr ⟨c, c, fs, gs, hx, hy⟩)) rx ry) (.inr (.inr h1))
/-- the top of x == y, x != y -/
def isIns : D → Bool
  | .ins _ _ => true
  | _ => false
def dEqO (u : Nat → List D → List D → Option Bool) (n : Nat) (ne : Bool) : D → D → Mo D := fun x y => if (isIns x && ne) = true then failM else match x, y with
    | .lst _, .lst _ => match deq u (n + 1) x y with
      | some b => retM (.bl (b != ne))
      | none => failM
    | .tup _, .tup _ => match deq u (n + 1) x y with
      | some b => retM (.bl (b != ne))
      | none => failM
    | .ins _ _, .ins _ _ => match deq u (n + 1) x y with
      | some b => retM (.bl (b != ne))
      | none => failM
    | _, _ => failM
def dEqF (ne : Bool) : D → D → Mo D := fun x y => match flV x with
  | some v => match flV y with
    | some w => if scal v w = true then retM (.bl (decide (v = w) != ne)) else failM
    | none => failM
  | none => failM
theorem dOr_cases {f g : D → D → Mo D} {x y : D} {p : Pt} {r : D × Pt} (h : dOr f g x y p = some r) : f x y p = some r ∨ g x y p = some r := by
  unfold dOr at h
  rcases z : f x y p with _ | w
  · rw [z] at h; exact .inr h
  · rw [z] at h; exact .inl h
def dEqR (u : Nat → List D → List D → Option Bool) (n : Nat) (ne : Bool) : D → D → Mo D := dOr (dEqF ne) (dEqO u n ne)
def rEqR (X : Cx) (cs : CT) (u : Nat → List D → List D → Option Bool) (n : Nat) (ne : Bool) : R2 := fun v w H Q => (scal v w = true ∧ Q (.bl (decide (v = w) != ne)) H) ∨
  ∃ ap B p x y b, Ex B H ∧ PotAt ap H p ∧ B ap = none ∧ Rep X.K cs ap B x v ∧ Rep X.K cs ap B y w ∧ ((∃ xs ys, x = .lst xs ∧ y = .lst ys) ∨ (∃ xs ys, x = .tup xs ∧ y = .tup ys) ∨ ∃ c c' fs gs, x = .ins c fs ∧ y = .ins c' gs ∧ ne = false) ∧ deq u (n + 1) x y = some b ∧
    ∀ B' H', Nxt ap B H B' H' → PotAt ap H' p → Q (.bl (b != ne)) H'
theorem opR_eqR {k : Nat} {u : Nat → List D → List D → Option Bool} (n : Nat) (U : UEq X cs k u) (hr : Room (k + n + 1) X.A) (ne : Bool) : OpR X (compareOp (DQ.opC ne)) (rEqR X cs u n ne) := by
  intro pins s σ H v w v' w' Q I rv rw' h
  rcases h with ⟨h, q⟩ | ⟨ap, B, p, x, y, b, e, hp, hb, rx, ry, hs, hq, q⟩
  · cases ne with
    | false => exact op_eq pins s σ H v w v' w' Q I rv rw' ⟨h, by rw [show (decide (v = w) != false) = decide (v = w) by cases decide (v = w) <;> rfl] at q; exact q⟩
    | true => exact op_ne pins s σ H v w v' w' Q I rv rw' ⟨h, by rw [show (decide (v = w) != true) = !decide (v = w) by cases decide (v = w) <;> rfl] at q; exact q⟩
  · have key : wpAny (model X.prog X.w) X.A (richCompare (DQ.opC ne) v' w') (fun r s' => r = .bool (b != ne) ∧ Aft X pins σ ap B H p s') X.xe s := by
      refine rcS_step (n := k + n) (eqS_deq U n) U (by omega) ⟨hr, rfl⟩ I e hp hb rx ry rv rw' ?_
      rcases hs with ⟨xs, ys, rfl, rfl⟩ | ⟨xs, ys, rfl, rfl⟩ | ⟨c, c', fs, gs, rfl, rfl, hne⟩
      · exact .inl ⟨xs, ys, rfl, rfl, hq⟩
      · exact .inr (.inl ⟨xs, ys, rfl, rfl, hq⟩)
      · unfold deq at hq
        dsimp only at hq
        split at hq
        · rename_i hc
          subst hc
          exact .inr (.inr ⟨c, fs, gs, rfl, rfl, hq, hne⟩)
        · cases hq
    have fin : wpAny (model X.prog X.w) X.A (richCompare (DQ.opC ne) v' w') (EP X pins σ Q) X.xe s := by
      refine wpAny_mono key (fun r s' z => ?_) fun _ _ x => x
      obtain ⟨rfl, B', H', I', n', hp'⟩ := z
      exact ⟨.bl (b != ne), H', I', rfl, q B' H' n' hp'⟩
    cases ne <;> exact fin
theorem opD_eqR {k : Nat} {u : Nat → List D → List D → Option Bool} (n : Nat) (U : UEq X cs k u) (hr : Room (k + n + 1) X.A) (ne : Bool) : OpD cs X (compareOp (DQ.opC ne)) (dEqR u n ne) := by
  refine ⟨_, opR_eqR n U hr ne, fun ap B H p x y v w Q d p' e hp hb rx ry hm q => ?_⟩
  have fin : ∀ b, deq u (n + 1) x y = some b → ((∃ xs ys, x = .lst xs ∧ y = .lst ys) ∨ (∃ xs ys, x = .tup xs ∧ y = .tup ys) ∨ ∃ c c' fs gs, x = .ins c fs ∧ y = .ins c' gs ∧ ne = false) → (∀ B' H', Nxt ap B H B' H' → PotAt ap H' p → Q (.bl (b != ne)) H') → rEqR X cs u n ne v w H Q :=
    fun b h1 h2 h3 => .inr ⟨ap, B, p, x, y, b, e, hp, hb, rx, ry, h2, h1, h3⟩
  rcases dOr_cases hm with z | z
  · unfold dEqF at z
    rcases hv : flV x with _ | v1
    · rw [hv] at z; cases z
    · rcases hw : flV y with _ | w1
      · rw [hv, hw] at z; cases z
      · rw [hv, hw] at z
        dsimp only at z
        split at z
        · rename_i hs
          cases z
          obtain ⟨rfl, _⟩ := rep_flat hv rx
          obtain ⟨rfl, _⟩ := rep_flat hw ry
          exact .inl ⟨hs, q B H _ (Nxt.refl e) hp (by simp only [Rep])⟩
        · cases z
  · unfold dEqO at z
    split at z
    · cases z
    · rename_i hne
      split at z
      · rename_i a b
        rcases hb' : deq u (n + 1) (.lst a) (.lst b) with _ | r
        · rw [hb'] at z; cases z
        · rw [hb'] at z
          cases z
          exact fin r hb' (.inl ⟨_, _, rfl, rfl⟩) fun B' H' n' hp' => q B' H' _ n' hp' (by simp only [Rep])
      · rename_i a b
        rcases hb' : deq u (n + 1) (.tup a) (.tup b) with _ | r
        · rw [hb'] at z; cases z
        · rw [hb'] at z
          cases z
          exact fin r hb' (.inr (.inl ⟨_, _, rfl, rfl⟩)) fun B' H' n' hp' => q B' H' _ n' hp' (by simp only [Rep])
      · rename_i c a c' b
        rcases hb' : deq u (n + 1) (.ins c a) (.ins c' b) with _ | r
        · rw [hb'] at z; cases z
        · rw [hb'] at z
          cases z
          refine fin r hb' (.inr (.inr ⟨_, _, _, _, rfl, rfl, ?_⟩)) fun B' H' n' hp' => q B' H' _ n' hp' (by simp only [Rep])
          cases ne with
          | false => rfl
          | true => exact absurd rfl hne
      · cases z
end
end DL
end

section
set_option Elab.async false
set_option linter.all false
set_option maxRecDepth 100000
set_option maxHeartbeats 4000000
/-! != between two instances whose class has an own == and no own !=. -/
namespace PySem.W
open PySem PySem.Calls PyProof.Rows Builtin
section
variable {prog : Program} {w : World} {A : Around} {E : Value → Shared → Prop} {s : Shared} {K : Frag} {x C L f : Addr} {h₀ : Heap} {m : Str → Option Value} {ox : Obj} {od : Option Obj} {b tb : Value}
theorem ne_bind (self : Value) : bindSpecial (.builtin "object.__ne__") self = pure (.builtin "object.__ne__", [self]) := PySem.F.cmp_object.ne.bind self
theorem ne_args (a b : Value) : argsOk "object.__ne__" ⟨[a, b], []⟩ := PySem.F.cmpArgs_ne a b
theorem ifBound_B {M : Model} {name i : Str} {id : String} {args : List Value} {Q : Option Value → Shared → Prop} (X : K.In s.heap) (I : InstAt s.heap x ox C od) (hs : findIn K (.ref C) name = some (some (.builtin id))) (hb : ∀ self, bindSpecial (.builtin id) self = pure (.builtin id, [self]))
    (h : wpAny M A (call (.builtin id) (.ref x :: args)) (fun v => Q (some v)) E s) : wpAny M A (callSpecialIfBound? (.ref x) name args) Q E s := by
  simp only [callSpecialIfBound?, bindSpecialIfBound?]
  refine wpAny_holding (wpAny_bind (wpAny_bind (wpAny_bind (I.type.here ((looks_findIn X hs).here ?_)))))
  refine wpAny_bind (wpAny_askSetting (wpAny_ite ?_))
  have fin : wpAny M A (call (.builtin id) ([.ref x] ++ args) >>= fun v => pure (some v)) Q E s := wpAny_bind (wpAny_mono h (fun v s' h' => wpAny_pure h') fun _ _ h' => h')
  rw [hb]
  split
  · exact wpAny_bind (wpAny_pure (wpAny_pure (by exact fin)))
  · exact wpAny_tryCatch (wpAny_bind (wpAny_pure (wpAny_pure (by exact fin))))
theorem objNe_K (X : K.In s.heap) (I : InstAt s.heap x ox C od) (he : findIn K (.ref C) "__eq__" = some (some (.ref f))) (hf : isFn K (.ref f) = true) (hu : A.units < cLine) {Q : Fin → Shared → Prop}
    (hcall : wpAny (model prog w) A (call (.ref f) [.ref x, b]) (fun v s' => ∃ c, v = .bool c ∧ Q (.done (.ret (.bool (!c)))) s') E s) :
    wpAny (model prog w) A (Builtin.«object.__ne__» ⟨[.ref x, b], []⟩) Q E s := by
  unfold Builtin.«object.__ne__»
  repeat (first
    | with_reducible refine wpAny_cRoomFor hu ?_
    | (refine wpAny_bind (m := callSpecialIfBound? (.ref x) (Str.ofString "__eq__") [b])
        (ifBound_K X I he hf (wpAny_mono hcall (fun r s' hr => by
          obtain ⟨c, rfl, hq⟩ := hr
          repeat (first | exact hq | exact wpAny_pure hq | exact wpAny_truthy_bool hq | (refine wpAny_bind (m := truthy (.bool _)) (wpAny_truthy_bool ?_)) | wp_step)) fun _ _ e => e)))
    | wp_step)
theorem cmpNe_K {Q : Value → Shared → Prop} (hu : A.units + 1 < cLine) (F : Fr h₀ L s.heap m) (X₀ : K.In h₀) (I : InstAt s.heap x ox C od) (hb : Looks (model prog w) s.heap (typeOf b) tb) (hn : notFirst K C tb = true)
    (hs : findIn K (.ref C) "__ne__" = some (some (.builtin "object.__ne__"))) (hm : mroIn K C (.type "object") = some true)
    (he : findIn K (.ref C) "__eq__" = some (some (.ref f))) (hf : isFn K (.ref f) = true)
    (h : wpAny (model prog w) A.in1 (call (.ref f) [.ref x, b]) (fun v s' => ∃ c, v = .bool c ∧ Q (.bool (!c)) s') E s) : wpAny (model prog w) A (richCompare .NotEq (.ref x) b) Q E s := by
  have X := X₀.keeps F.keep
  have one : wpAny (model prog w) A (tryCompare (.ref x) "__ne__" b) (fun r s' => ∃ v, r = some v ∧ Q v s') E s := by
    unfold tryCompare
    have inst : Looks (model prog w) s.heap (isInstance (.ref x) (.type "object")) true := I.type.andThen (looks_mroIn X hm)
    refine wpAny_bind (ifBound_B (name := "__ne__") (i := "__ne__") X I hs ne_bind (wpAny_call (codeAny_call_builtin PySem.F.cmp_object.ne.plain PySem.F.cmpEntry_ne
      (check_slot PySem.F.cmpKind_ne PySem.F.cmpSplit_ne inst (ne_args _ _) (objNe_K (A := A.in1) X I he hf hu (wpAny_mono h (fun v s' hv => ?_) fun _ _ e => e))))))
    obtain ⟨c, rfl, hq⟩ := hv
    first | exact ⟨c, rfl, wpAny_pure ⟨_, rfl, hq⟩⟩ | exact ⟨c, rfl, wpAny_pure (wpAny_pure ⟨_, rfl, hq⟩)⟩ | exact ⟨c, rfl, ⟨_, rfl, hq⟩⟩
  unfold richCompare
  simp only [oneThing_ref]
  refine wpAny_holding (wpAny_bind (wpAny_cRoomFor (Nat.lt_of_succ_lt hu) ?_))
  rw [cmpInfo_NotEq]
  dsimp only
  refine wpAny_bind (I.type.here (wpAny_bind (hb.here ?_)))
  split
  · rename_i q
    have e : subIn K tb (.ref C) = some false := by
      rcases Bool.or_eq_true_iff.mp hn with e | e
      · rw [beq_iff_eq.mp e] at q; simp at q
      · exact beq_iff_eq.mp e
    refine wpAny_bind ((looks_subIn X e).here ?_)
    simp only [Bool.false_eq_true, if_false]
    refine wpAny_bind (wpAny_mono one (fun r s' z => ?_) fun _ _ e => e)
    obtain ⟨v, rfl, hq⟩ := z
    exact wpAny_pure hq
  · refine wpAny_bind (wpAny_pure ?_)
    simp only [Bool.false_eq_true, if_false]
    refine wpAny_bind (wpAny_mono one (fun r s' z => ?_) fun _ _ e => e)
    obtain ⟨v, rfl, hq⟩ := z
    exact wpAny_pure hq
end
end PySem.W
end

section
set_option Elab.async false
set_option linter.all false
set_option maxRecDepth 100000
set_option maxHeartbeats 4000000
/-! DL: repr of data, own __repr__ among them. -/
namespace DL
open PySem PySem.Spec PyProof.Rows L2
open Evl (Ex)
open PySem.Builtin
def flT : D → Option Str
  | .non => some "None"
  | .bl b => some (if b then "True" else "False")
  | .int i => if i.natAbs.log2 < 1920 then some (toString i) else none
  | .str x => some (reprText x)
  | _ => none
def repL (f : D → Option Str) : List D → Option (List Str)
  | [] => some []
  | d :: ds => match f d with
    | some t => match repL f ds with
      | some ts => some (t :: ts)
      | none => none
    | none => none
/-- the text of a datum; u: of an instance -/
def repT (u : Nat → List D → Option Str) : Nat → D → Option Str
  | 0, d => flT d
  | n + 1, d => match d with
    | .lst ds => match repL (repT u n) ds with
      | some ts => some (listText ts)
      | none => none
    | .tup ds => match repL (repT u n) ds with
      | some ts => some (tupleText ts)
      | none => none
    | .ins c fs => u c fs
    | .ed => some (dictText [])
    | d => flT d
theorem repL_get {f : D → Option Str} : ∀ {ds : List D} {ts : List Str} {i : Nat} {d : D}, repL f ds = some ts → ds[i]? = some d → ∃ t, f d = some t ∧ ts[i]? = some t
  | [], _, _, _, _, h => by simp at h
  | d :: ds, ts, i, d', h, hi => by
    unfold repL at h
    rcases z : f d with _ | t
    · rw [z] at h; cases h
    · rw [z] at h
      rcases z2 : repL f ds with _ | ts'
      · rw [z2] at h; cases h
      · rw [z2] at h
        cases h
        cases i with
        | zero => simp at hi; subst hi; exact ⟨t, z, rfl⟩
        | succ i =>
          simp at hi
          obtain ⟨t', h1, h2⟩ := repL_get z2 hi
          exact ⟨t', h1, by simpa using h2⟩
theorem repL_len {f : D → Option Str} : ∀ {ds : List D} {ts : List Str}, repL f ds = some ts → ts.length = ds.length
  | [], _, h => by cases h; rfl
  | d :: ds, ts, h => by
    unfold repL at h
    rcases z : f d with _ | t
    · rw [z] at h; cases h
    · rw [z] at h
      rcases z2 : repL f ds with _ | ts'
      · rw [z2] at h; cases h
      · rw [z2] at h
        cases h
        rw [List.length_cons, List.length_cons, repL_len z2]
theorem size_mem {d : D} {ds : List D} (h : d ∈ ds) : sizeOf d < sizeOf (D.lst ds) ∧ sizeOf d < sizeOf (D.tup ds) := by
  have := List.sizeOf_lt_of_mem h
  constructor
  · rw [D.lst.sizeOf_spec]; omega
  · rw [D.tup.sizeOf_spec]; omega
section
variable {A : Around} {args : Args}
theorem loop_depth : (A.under (.builtin "list.__repr__.loop" args)).depth = A.depth + 1 := by
  first | rfl | simp [Around.under, Code.weight, Code.isCreation, Code.isGuard, Code.isCaller, Code.frames, Code.isFrame, guardIds]
theorem loop_frames : (A.under (.builtin "list.__repr__.loop" args)).frames = A.frames := by
  first | rfl | simp [Around.under, Code.envs, Code.isFrame, pushEnvs]
theorem loop_hd : (A.under (.builtin "list.__repr__.loop" args)).handled = A.handled := rfl
theorem tupr_depth {id : String} (h : id = "tuple.__repr__" ∨ id = "tuple.__repr__.under") : (A.under (.builtin id args)).depth = A.depth + 1 := by
  rcases h with rfl | rfl
  · first | rfl | simp [Around.under, Code.weight, Code.isCreation, Code.isGuard, Code.isCaller, Code.frames, Code.isFrame, guardIds]
  · first | rfl | simp [Around.under, Code.weight, Code.isCreation, Code.isGuard, Code.isCaller, Code.frames, Code.isFrame, guardIds]
theorem tupr_frames {id : String} (h : id = "tuple.__repr__" ∨ id = "tuple.__repr__.under") : (A.under (.builtin id args)).frames = A.frames := by
  rcases h with rfl | rfl
  · first | rfl | simp [Around.under, Code.envs, Code.isFrame, pushEnvs]
  · first | rfl | simp [Around.under, Code.envs, Code.isFrame, pushEnvs]
end
/-- the guards under way are of greater data -/
def GCl (K : PySem.W.Frag) (cs : CT) (ap : Addr) (B : Hp) (g : List Code) (d : D) : Prop := ∀ id v rest kw, Code.builtin id ⟨v :: rest, kw⟩ ∈ g → ∃ a e, v = .ref a ∧ Rep K cs ap B e (.ref a) ∧ sizeOf d < sizeOf e
theorem GCl.mono {K : PySem.W.Frag} {cs : CT} {ap : Addr} {B B' : Hp} {g : List Code} {d : D} (h : GCl K cs ap B g d) (e : Ex B B') : GCl K cs ap B' g d := fun id v rest kw hm => by
  obtain ⟨a, x, h1, h2, h3⟩ := h id v rest kw hm
  exact ⟨a, x, h1, h2.mono e, h3⟩
theorem GCl.push {K : PySem.W.Frag} {cs : CT} {ap : Addr} {B : Hp} {g : List Code} {d e : D} {a : Addr} {id : String} {rest : List Value} (h : GCl K cs ap B g e) (r : Rep K cs ap B e (.ref a)) (hs : sizeOf d < sizeOf e) : GCl K cs ap B (.builtin id ⟨.ref a :: rest, []⟩ :: g) d := fun id' v rest' kw hm => by
  rcases List.mem_cons.mp hm with z | hm
  · cases z
    exact ⟨a, e, rfl, r, hs⟩
  · obtain ⟨b, x, h1, h2, h3⟩ := h id' v rest' kw hm
    exact ⟨b, x, h1, h2, Nat.lt_trans hs h3⟩
/-- the own __repr__ of the classes -/
structure URep (X : Cx) (cs : CT) (k : Nat) (u : Nat → List D → Option Str) : Prop where
  of : ∀ c fs t, u c fs = some t → ∃ C fn f fd ps fm, ClsAt X.K cs c C fn ∧ PySem.W.findIn X.K (.ref C) "__repr__" = some (some (.ref f)) ∧ PySem.W.isFn X.K (.ref f) = true ∧ FnD false X.prog X.w X.K X.mg X.base k f fd ps (spD X.K cs 1 fm) ∧ Binds X.K fd ps [] ∧ ∀ p, fm [.ins c fs] p = some (.str t, p)
  inj : ∀ c c' C fn fn', cs c = some (C, fn) → cs c' = some (C, fn') → c = c'
theorem str_vals : ∀ {acc : List Str} {its : List Value}, Vals (acc.map V.str) its → ∃ done : List (Str × Tok), its = strValues done ∧ done.map (·.1) = acc
  | [], _, h => by cases h; exact ⟨[], rfl, rfl⟩
  | x :: acc, its, h => by
    cases h with
    | cons r t =>
      obtain ⟨tk, rfl⟩ := r
      obtain ⟨done, rfl, h2⟩ := str_vals t
      exact ⟨(x, tk) :: done, rfl, by rw [List.map_cons, h2]⟩
section
variable {X : Cx} {cs : CT}
def RepS (X : Cx) (cs : CT) (n : Nat) (f : D → Option Str) : Prop :=
  ∀ (A : Around) (g : List Code) (pins : List (Addr × Obj)) (s : Shared) (σ : L2.St) (H B : Hp) (ap : Addr) (p : Pt) (base : Nat) (d : D) (v : V) (v' : Value) (t : Str), Sub X n A → A.guards = some g → GCl X.K cs ap B g d → Inv X pins σ H s → Ex B H → PotAt ap H p → B ap = none → Rep X.K cs ap B d v → L2.RelV v v' → f d = some t → base + t.length ≤ sizeLine →
    wpAny (model X.prog X.w) A (pyReprUnder base v') (fun out s' => out = t ∧ Aft X pins σ ap B H p s') X.xe s
theorem RepS.mono {n m : Nat} {f : D → Option Str} (h : RepS X cs n f) (hn : n ≤ m) : RepS X cs m f := fun A g pins s σ H B ap p base d v v' t sb => h A g pins s σ H B ap p base d v v' t (sb.mono hn)
theorem repS_flat : RepS X cs 0 flT := by
  intro A g pins s σ H B ap p base d v v' t sb hg gc I e hp hb r rv h hz
  have fin : ∀ tk, Aft X pins σ ap B H p { s with toks := tk } := fun tk => ⟨B, H, I.tok _, Nxt.refl e, hp⟩
  cases d with
  | non =>
    simp only [Rep] at r
    subst r
    cases rv
    cases h
    exact ReprIs.none base hz A _ s _ fun tk => ⟨rfl, fin tk⟩
  | bl b =>
    simp only [Rep] at r
    subst r
    cases rv
    cases h
    exact ReprIs.bool b base hz A _ s _ fun tk => ⟨rfl, fin tk⟩
  | int i =>
    simp only [Rep] at r
    subst r
    obtain ⟨tk0, rfl⟩ := rv
    unfold flT at h
    dsimp only at h
    split at h
    · rename_i hi
      cases h
      exact ReprIs.int tk0 hi base hz A _ s _ fun tk => ⟨rfl, fin tk⟩
    · cases h
  | str x =>
    simp only [Rep] at r
    subst r
    obtain ⟨tk0, rfl⟩ := rv
    cases h
    exact ReprIs.str x tk0 (by omega) base hz A _ s _ fun tk => ⟨rfl, fin tk⟩
  | _ => cases h
theorem gcl_clear {pins : List (Addr × Obj)} {s : Shared} {σ : L2.St} {H B : Hp} {ap : Addr} {p : Pt} {g : List Code} {d : D} {a : Addr} (hinj : ∀ c c' C fn fn', cs c = some (C, fn) → cs c' = some (C, fn') → c = c') (I : Inv X pins σ H s) (e : Ex B H) (hp : PotAt ap H p) (hb : B ap = none) (r : Rep X.K cs ap B d (.ref a)) (gc : GCl X.K cs ap B g d) : Clear g a := by
  intro id v rest kw hm z
  obtain ⟨b, x, h1, h2, h3⟩ := gc id v rest kw hm
  rw [h1] at z
  cases z
  rw [rep_one I hinj e hp hb r h2] at h3
  exact Nat.lt_irrefl _ h3
theorem sub_loop {n : Nat} {A : Around} {args : Args} (sb : Sub X (n + 1) A) : Sub X n (A.under (.builtin "list.__repr__.loop" args)) :=
  ⟨⟨by rw [loop_hd]; exact sb.room.hd, by rw [loop_depth]; have := sb.room.dp; omega, by rw [units_under_list_loop]; have := sb.room.un; omega⟩, by rw [loop_frames]; exact sb.fr⟩
theorem sub_tupr {n : Nat} {A : Around} {args : Args} {id : String} (h : id = "tuple.__repr__" ∨ id = "tuple.__repr__.under") (hu : (A.under (.builtin id args)).units = A.units + 1) (sb : Sub X (n + 1) A) : Sub X n (A.under (.builtin id args)) :=
  ⟨⟨sb.room.hd, by rw [tupr_depth h]; have := sb.room.dp; omega, by rw [hu]; have := sb.room.un; omega⟩, by rw [tupr_frames h]; exact sb.fr⟩
theorem take_str {ts : List Str} {i : Nat} {t : Str} (h : ts[i]? = some t) : ts.take i ++ [t] = ts.take (i + 1) := by
  rw [List.take_add_one, h]; rfl
/-- the list's loop -/
theorem repr_loop {n : Nat} {f : D → Option Str} (h : RepS X cs n f) {A : Around} (sb : Sub X (n + 1) A) {g : List Code} {pins : List (Addr × Obj)} {σ : L2.St} {H B : Hp} {ap a P : Addr} {p : Pt} {ds : List D} {vs : List V} {ts : List Str} {base : Nat} {R : Result → Shared → Prop}
    (hg : A.guards = some g) (gc : GCl X.K cs ap B g (.lst ds)) (hap : B ap = none) (hpH : PotAt ap H p) (hx : ∀ e s, X.xe e s → R (.error e) s) (ha : B a = some (.lst vs)) (r : Reps X.K cs ap B ds vs) (ht : repL f ds = some ts) (hP : H P = none) (hBP : B P = none) (hsz : base + (listText ts).length ≤ sizeLine)
    (hR : ∀ s' u, Aft X pins σ ap B H p s' → R (.ok (.ret (.str (listText ts) u))) s') :
    ∀ (k i : Nat) (s : Shared) (B1 H1 : Hp), ds.length - i = k → i ≤ ds.length → Inv X pins σ H1 s → Nxt ap B H B1 H1 → PotAt ap H1 p → H1 P = some (.lst ((ts.take i).map V.str)) → B1 P = none →
    codeAny (model X.prog X.w) A (.builtin "list.__repr__.loop" ⟨[.ref a, rawInt i, .ref P, rawInt ((base + piled (ts.take i) : Nat) : Int)], []⟩) R s := by
  have hX : (listText ts).length = (textFrom 0 "[" ts).length + 1 := by
    show (textFrom 0 "[" ts ++ "]").length = _
    rw [strLen_append]; rfl
  have hL := textFrom_len ts 0 "["
  have hlen := repL_len ht
  have hsz2 : ∀ t ∈ ts, t.length ≤ sizeLine := fun t ht => by
    have h2 := hL.2.1 t ht
    omega
  have hsz3 : (listText ts).length ≤ sizeLine := by omega
  have hp3 := piled_le_listText ts
  have rl : Rep X.K cs ap B (.lst ds) (.ref a) := by simp only [Rep]; exact ⟨a, vs, rfl, ha, r⟩
  have Pap : P ≠ ap := fun z => by rw [z] at hP; rw [show H ap = _ from hpH] at hP; cases hP
  intro k
  induction k with
  | zero =>
    intro i s B1 H1 hk hi I n1 hp1 hPl hB1
    have hin : i = ds.length := by omega
    obtain ⟨its, m, rv, ho, _⟩ := I.lst (n1.bh _ _ (n1.bb _ _ ha))
    obtain ⟨its2, m2, rv2, ho2, _⟩ := I.lst hPl
    obtain ⟨done, hd1, hd2⟩ := str_vals rv2
    have hl1 : its.length = ds.length := by rw [← rv.length, r.length]
    refine codeAny_builtin F.entry_list_repr_loop ?_
    show wpAny _ _ («list.__repr__.loop» ⟨[.ref a, .int i 0, .ref P, .int ((base + piled (ts.take i) : Nat) : Int) 0], []⟩) _ _ s
    rw [repr_loop_tree]
    refine wpAny_bind (wpAny_listItems ho rfl ?_)
    have hnone : its.toArray[(i : Int).toNat]? = none := by simp [hin, hl1]
    simp only [hnone]
    unfold reprEnd
    refine wpAny_bind (wpAny_listItems ho2 rfl ?_)
    rw [show its2.toArray.toList = strValues done by rw [hd1], repr_fold]
    refine wpAny_bind (wpAny_pure ?_)
    have hall : done.map (·.1) = ts := by rw [hd2, hin, ← hlen, List.take_length]
    rw [hall]
    refine wpAny_bind (wpAny_mkStr (wpAny_pure ?_) hsz3)
    exact hR _ _ ⟨B1, H1, I.tok _, n1, hp1⟩
  | succ k ih =>
    intro i s B1 H1 hk hi I n1 hp1 hPl hB1
    have hlt : i < ds.length := by omega
    obtain ⟨its, m, rv, ho, _⟩ := I.lst (n1.bh _ _ (n1.bb _ _ ha))
    have hl1 : its.length = ds.length := by rw [← rv.length, r.length]
    obtain ⟨w, hw, rw'⟩ := r.get (List.getElem?_eq_getElem hlt)
    obtain ⟨w', hw', rww⟩ := rv.get hw
    obtain ⟨t, hft, hti⟩ := repL_get ht (List.getElem?_eq_getElem hlt)
    have hp1' := piled_take_succ hti
    have hp2' := piled_take_le ts (i + 1)
    refine codeAny_builtin F.entry_list_repr_loop ?_
    show wpAny _ _ («list.__repr__.loop» ⟨[.ref a, .int i 0, .ref P, .int ((base + piled (ts.take i) : Nat) : Int) 0], []⟩) _ _ s
    rw [repr_loop_tree]
    refine wpAny_bind (wpAny_listItems ho rfl ?_)
    have hsome : its.toArray[(i : Int).toNat]? = some w' := by simpa using hw'
    simp only [hsome]
    rw [Int.toNat_natCast]
    have hmem : ds[i] ∈ ds := List.getElem_mem hlt
    have apH : H ap ≠ none := by rw [show H ap = _ from hpH]; exact (fun z => nomatch z)
    have gc' : GCl X.K cs ap B1 (.builtin "list.__repr__.loop" ⟨[.ref a, .int i 0, .ref P, .int ((base + piled (ts.take i) : Nat) : Int) 0], []⟩ :: g) ds[i] := (gc.push rl (size_mem hmem).1).mono n1.bb
    refine wpAny_bind (wpAny_holding (wpAny_mono (h _ _ pins s σ H1 B1 ap p (base + piled (ts.take i) + 1) ds[i] w w' t (sub_loop sb) (guards_under_guard (isGuard_list_loop _) hg) gc' I n1.bh hp1 (n1.nw _ apH hap) (rw'.mono n1.bb) rww hft (by omega)) (fun out s2 q => ?_) fun e s2 q => hx e s2 q))
    obtain ⟨rfl, B2, H2, I2, n2, hp2⟩ := q
    refine wpAny_bind (wpAny_mkStr ?_ (hsz2 out (List.mem_of_getElem? hti)))
    refine wpAny_bind ?_
    show wpAny _ _ (updateSeq P _) _ _ _
    have hP2 : H2 P = some (.lst ((ts.take i).map V.str)) := n2.fr _ _ hPl Pap
    have hB2 : B2 P = none := n2.nw _ (by rw [hPl]; exact (fun z => nomatch z)) hB1
    obtain ⟨its2, m2, rv2, ho2, hz2⟩ := I2.lst hP2
    have hq2 : its2.length ≤ sizeLine := by rw [← rv2.length]; exact hz2
    have hti2 : (ts.take i).length ≤ i := by rw [List.length_take]; omega
    have hnew : ((ts.take (i + 1)).map V.str).length ≤ sizeLine := by
      rw [List.length_map, List.length_take]
      have h1 := hL.1
      rw [if_neg (Nat.lt_irrefl 0)] at h1
      omega
    have hv2 : Vals ((ts.take (i + 1)).map V.str) (its2 ++ [.str out s2.toks]) := by
      rw [← take_str hti, List.map_append]
      exact rv2.append (.cons ⟨_, rfl⟩ .nil)
    refine wpAny_updateSeq (o := { cls := .type "list", data := .seq its2.toArray m2 }) ho2 rfl (wpAny_pure ⟨F.quiet_list_repr_loop _, ?_⟩) (by simpa using hq2) (by rw [Array.size_push]; simpa using hq2)
    have e1 : ((i : Int) + 1) = ((i + 1 : Nat) : Int) := by omega
    have e2 : base + piled (ts.take i) + (out.length + 2) = base + piled (ts.take (i + 1)) := by omega
    rw [e1, e2]
    have I3 := I2.lset (t' := s2.toks + 1) (f := (·.push (Value.str out s2.toks))) (its' := its2 ++ [.str out s2.toks]) hP2 ho2 (by simp) hv2 hnew
    have n12 := n1.trans n2
    refine ih (i + 1) _ B2 (upd H2 P (.lst ((ts.take (i + 1)).map V.str))) (by omega) hlt I3 ?_ ?_ upd_same hB2
    · refine ⟨n12.bb, fun b o hbo => ?_, n12.nw, fun b o hbo hap' => ?_, fun b hbo => ?_⟩
      · have e9 : b ≠ P := fun z => by rw [z, hB2] at hbo; cases hbo
        rw [upd_ne e9]; exact n12.bh _ _ hbo
      · have e9 : b ≠ P := fun z => by rw [z, hP] at hbo; cases hbo
        rw [upd_ne e9]; exact n12.fr _ _ hbo hap'
      · have e9 : b ≠ P := fun z => hbo (by rw [z]; exact hP)
        rw [upd_ne e9]; exact n12.nn _ hbo
    · unfold PotAt; rw [upd_ne (fun z => Pap z.symm)]; exact hp2
/-- what repr of a list runs, behind its own check -/
theorem list_at {n : Nat} {f : D → Option Str} (h : RepS X cs n f) {A : Around} (sb : Sub X (n + 1) A) {g : List Code} {pins : List (Addr × Obj)} {s : Shared} {σ : L2.St} {H B : Hp} {ap a : Addr} {p : Pt} {x : D} {ds : List D} {vs : List V} {ts : List Str} {base : Nat} {R : Result → Shared → Prop}
    (hinj : ∀ c c' C fn fn', cs c = some (C, fn) → cs c' = some (C, fn') → c = c') (hg : A.guards = some g) (gc : GCl X.K cs ap B g (.lst (x :: ds))) (hap : B ap = none) (hpH : PotAt ap H p) (hx : ∀ e s, X.xe e s → R (.error e) s) (I : Inv X pins σ H s) (e : Ex B H) (ha : B a = some (.lst vs)) (r : Reps X.K cs ap B (x :: ds) vs)
    (ht : repL f (x :: ds) = some ts) (hsz : base + (listText ts).length ≤ sizeLine) (hR : ∀ s' u, Aft X pins σ ap B H p s' → R (.ok (.ret (.str (listText ts) u))) s') :
    wpAny (model X.prog X.w) A.in1 (Builtin.listReprAt base ⟨[.ref a], []⟩) (GQ.FinOf X.prog X.w A R) (fun e s' => R (.error e) s') s := by
  have rl : Rep X.K cs ap B (.lst (x :: ds)) (.ref a) := by simp only [Rep]; exact ⟨a, vs, rfl, ha, r⟩
  have hca := gcl_clear hinj I e hpH hap rl gc
  obtain ⟨its, m, rv, ho, hz⟩ := I.lst (e _ _ ha)
  obtain ⟨y, its', rfl⟩ : ∃ y its', its = y :: its' := by
    cases its with
    | nil => have := rv.length; rw [r.length] at this; simp at this
    | cons y its' => exact ⟨y, its', rfl⟩
  refine wpAny_list_repr_head (A := A.in1) hg (fun v rest kw hm => listSameRef_of_ne (hca _ _ _ _ hm)) ho rfl ?_
  refine wpAny_bind (m := newList []) (wpAny_newObj_type ?_)
  refine wpAny_pure ⟨F.quiet_list_repr_loop _, ?_⟩
  have hP : H s.heap.objs.size = none := I.fresh
  have hBP : B s.heap.objs.size = none := Evl.fresh_back e hP
  have I2 := I.lnew (its := []) (ys := []) (t' := s.toks) .nil (Nat.zero_le _)
  have n0 : Nxt ap B H B (upd H s.heap.objs.size (.lst [])) := Nxt.newU e hP
  exact repr_loop (P := s.heap.objs.size) h sb hg gc hap hpH hx ha r ht hP hBP hsz hR _ 0 _ B _ rfl (Nat.zero_le _) I2 n0 (hpH.new hP) upd_same hBP
theorem list_at0 {pins : List (Addr × Obj)} {s : Shared} {σ : L2.St} {H B : Hp} {ap a : Addr} {vs : List V} (I : Inv X pins σ H s) (e : Ex B H) (ha : B a = some (.lst vs)) (r : Reps X.K cs ap B [] vs) :
    ∃ o n, s.heap.get? a = some o ∧ o.cls = .type "list" ∧ o.data = .seq #[] n := by
  obtain ⟨its, m, rv, ho, hz⟩ := I.lst (e _ _ ha)
  have : its = [] := by
    cases its with
    | nil => rfl
    | cons y t => have := rv.length; rw [r.length] at this; simp at this
  subst this
  exact ⟨_, m, ho, rfl, rfl⟩
/-- an empty dict -/
theorem dict_at0 {pins : List (Addr × Obj)} {s : Shared} {σ : L2.St} {H B : Hp} {a : Addr} (I : Inv X pins σ H s) (e : Ex B H) (ha : B a = some (.dK [])) :
    ∃ o es n, s.heap.get? a = some o ∧ o.cls = .type "dict" ∧ o.data = .dict es n ∧ es.toList = [] ∧ (a == sysModules) = false := by
  obtain ⟨_, h0, vs, kv, o, es, ep, k1, k2, k3, _, k5, _⟩ := dk_of I.hok (e _ _ ha)
  cases kv
  refine ⟨o, es, ep, k1, k2.1, k3, ?_, h0⟩
  generalize es.toList = l at *
  cases k5
  rfl
/-- a tuple's items -/
theorem tup_fold {n : Nat} {f : D → Option Str} (h : RepS X cs n f) {A : Around} (sb : Sub X n A) {g : List Code} {pins : List (Addr × Obj)} {σ : L2.St} {H B : Hp} {ap : Addr} {p : Pt} (hg : A.guards = some g) (hap : B ap = none) (hpH : PotAt ap H p) :
    ∀ (ds : List D) (vs : List V) (its : List Value) (ts : List Str) (acc : Array Str) (m : Nat) (s : Shared) (B1 H1 : Hp) (Q : (Array Str × Nat) → Shared → Prop), (∀ d ∈ ds, GCl X.K cs ap B g d) → Reps X.K cs ap B ds vs → Vals vs its → repL f ds = some ts → m + piled ts ≤ sizeLine → Inv X pins σ H1 s → Nxt ap B H B1 H1 → PotAt ap H1 p →
    (∀ s', Aft X pins σ ap B H p s' → Q ⟨acc ++ ts.toArray, m + piled ts⟩ s') → wpAny (model X.prog X.w) A (forIn its (⟨acc, m⟩ : (Array Str × Nat)) tupBody) Q X.xe s := by
  intro ds
  induction ds with
  | nil =>
    intro vs its ts acc m s B1 H1 Q _ r rv ht _ I n1 hp1 k
    simp only [Reps] at r
    subst r
    cases rv
    cases ht
    have h0 := k s ⟨B1, H1, I, n1, hp1⟩
    simp only [List.forIn_nil]
    exact wpAny_pure (by simpa [piled] using h0)
  | cons d ds ih =>
    intro vs its ts acc m s B1 H1 Q gc r rv ht hm I n1 hp1 k
    simp only [Reps] at r
    obtain ⟨v, vs', rfl, r1, r2⟩ := r
    cases rv with
    | cons rx rr =>
      rename_i v' its'
      unfold repL at ht
      rcases z : f d with _ | t
      · rw [z] at ht; cases ht
      · rw [z] at ht
        rcases z2 : repL f ds with _ | ts'
        · rw [z2] at ht; cases ht
        · rw [z2] at ht
          cases ht
          rw [piled_cons] at hm
          rw [List.forIn_cons]
          have apH : H ap ≠ none := by rw [show H ap = _ from hpH]; exact (fun z => nomatch z)
          refine wpAny_bind (wpAny_bind (wpAny_mono (h A g pins s σ H1 B1 ap p (m + 1) d v v' t sb hg ((gc d List.mem_cons_self).mono n1.bb) I n1.bh hp1 (n1.nw _ apH hap) (r1.mono n1.bb) rx z (by omega)) (fun out s2 q => ?_) fun _ _ x => x))
          obtain ⟨rfl, B2, H2, I2, n2, hp2⟩ := q
          refine wpAny_pure ?_
          refine ih vs' its' ts' (acc.push out) (m + (out.length + 2)) s2 B2 H2 Q (fun d' hd' => gc d' (List.mem_cons_of_mem _ hd')) r2 rr z2 (by omega) I2 (n1.trans n2) hp2 fun s' a' => ?_
          have h1 := k s' a'
          have e : m + piled (out :: ts') = m + (out.length + 2) + piled ts' := by rw [piled_cons]; omega
          rw [e] at h1
          simpa using h1
theorem tup_at {n : Nat} {f : D → Option Str} (h : RepS X cs n f) {A : Around} (sb : Sub X (n + 1) A) {g : List Code} {pins : List (Addr × Obj)} {s : Shared} {σ : L2.St} {H B : Hp} {ap a : Addr} {p : Pt} {ds : List D} {vs : List V} {ts : List Str} {base : Nat} {R : Result → Shared → Prop} {id : String} {rest : List Value}
    (hid : id = "tuple.__repr__" ∨ id = "tuple.__repr__.under") (hcg : (Code.builtin id ⟨.ref a :: rest, []⟩).isGuard = true) (hcu : (A.under (.builtin id ⟨.ref a :: rest, []⟩)).units = A.units + 1)
    (hinj : ∀ c c' C fn fn', cs c = some (C, fn) → cs c' = some (C, fn') → c = c') (hg : A.guards = some g) (gc : GCl X.K cs ap B g (.tup ds)) (hap : B ap = none) (hpH : PotAt ap H p) (hx : ∀ e s, X.xe e s → R (.error e) s) (I : Inv X pins σ H s) (e : Ex B H) (ha : SqT X.K B a vs) (r : Reps X.K cs ap B ds vs)
    (ht : repL f ds = some ts) (hsz : base + (tupleText ts).length ≤ sizeLine) (hR : ∀ s' u, Aft X pins σ ap B H p s' → R (.ok (.ret (.str (tupleText ts) u))) s') :
    wpOwn (model X.prog X.w) A (.builtin id ⟨.ref a :: rest, []⟩) (Builtin.tupleReprAt base ⟨[.ref a], []⟩) (GQ.FinOf X.prog X.w A R) (fun e s' => R (.error e) s') s := by
  have rl : Rep X.K cs ap B (.tup ds) (.ref a) := by simp only [Rep]; exact ⟨a, vs, rfl, ha, r⟩
  have hca := gcl_clear hinj I e hpH hap rl gc
  obtain ⟨its, rv, ⟨o, ho, hc, m, hd⟩, hz⟩ := I.tuple (Evl.ex_t e ha)
  have hlen : ts.length = its.length := by rw [← rv.length, r.length, repL_len ht]
  have hp := piled_le_tupleText ts
  have hsz0 : (tupleText ts).length ≤ sizeLine := by omega
  rw [tuple_repr_tree, tupleReprUnderWay_eq]
  refine wpOwn_bind (wpOwn_stackTailAny hg (tupGuardF_off _) (tupGuardF_pos _) ?_)
  have hn : (g.any fun c => tupGuardF (.ref a) (c, default)) = false := by
    rw [List.any_eq_false]
    intro c hcm
    rw [tupGuardF_of_clear hca c hcm]
    exact Bool.false_ne_true
  rw [hn]
  refine wpOwn_of_wpAny ?_
  show wpAny _ _ (tupleReprRest base (.ref a)) _ _ s
  unfold tupleReprRest Builtin.Tuple.tupleItemsOf
  refine wpAny_bind (wpAny_bind (wpAny_seqItems ho hd (wpAny_pure ?_)))
  rw [← Array.forIn_toList]
  have hk := tup_fold (X := X) (cs := cs) h (sub_tupr hid hcu sb) (pins := pins) (σ := σ) (B := B) (guards_under_guard hcg hg) hap hpH ds vs its ts
  refine wpAny_bind (wpAny_mono (Q := fun b s' => ∃ b2 : Array Str × Nat, b = b2 ∧ Aft X pins σ ap B H p s' ∧ b2.1.toList = ts) (E := X.xe) ?_ (fun b s2 q => ?_) fun e s2 q => hx e s2 q)
  · have hd' : o.data = .seq its.toArray m := hd
    refine hk #[] _ s B H _ (fun d hm => gc.push rl (size_mem hm).2) r rv ht ?_ I (Nxt.refl e) hpH fun s' a' => ⟨_, rfl, a', by simp⟩
    omega
  · obtain ⟨b2, rfl, a2, hb2⟩ := q
    refine wpAny_bind (wpAny_mkStr (wpAny_pure ?_) (by rw [hb2]; simpa [tupleText, hlen] using hsz0))
    obtain ⟨B2, H2, I2, n2, hp2⟩ := a2
    have h1 := hR { s2 with toks := s2.toks + 1 } s2.toks ⟨B2, H2, I2.tok _, n2, hp2⟩
    rw [hb2]
    simpa [tupleText, hlen] using h1
/-- an own __repr__ where a text is wanted -/
theorem ifBoundBy_K {K : PySem.W.Frag} {M : Model} {A : Around} {E : Value → Shared → Prop} {s : Shared} {x C f : Addr} {ox : Obj} {od : Option Obj} {name : Str} {last : Value → List Value → Sem Value} {Q : Option Value → Shared → Prop} (X : K.In s.heap) (I : PySem.W.InstAt s.heap x ox C od)
    (hs : PySem.W.findIn K (.ref C) name = some (some (.ref f))) (hf : PySem.W.isFn K (.ref f) = true) (h : wpAny M A (last (.ref f) [.ref x]) (fun v => Q (some v)) E s) : wpAny M A (callSpecialIfBoundBy? last (.ref x) name) Q E s := by
  simp only [callSpecialIfBoundBy?, bindSpecialIfBound?]
  refine wpAny_holding (wpAny_bind (wpAny_bind (wpAny_bind (I.type.here ((PySem.W.looks_findIn X hs).here ?_)))))
  refine wpAny_bind (wpAny_askSetting (wpAny_ite ?_))
  have fin : wpAny M A (last (.ref f) [.ref x] >>= fun v => pure (some v)) Q E s := wpAny_bind (wpAny_mono h (fun v s' h' => wpAny_pure h') fun _ _ h' => h')
  split
  · exact wpAny_bind ((PySem.W.bind_fn X _ (beq_iff_eq.mp hf)).here (wpAny_pure (by exact fin)))
  · exact wpAny_tryCatch (wpAny_bind ((PySem.W.bind_fn X _ (beq_iff_eq.mp hf)).here (wpAny_pure (by exact fin))))
/-- the own __repr__, called -/
theorem own_repr {k : Nat} {u : Nat → List D → Option Str} (U : URep X cs k u) {A : Around} (sb : Sub X k A) {pins : List (Addr × Obj)} {s : Shared} {σ : L2.St} {H B : Hp} {ap a : Addr} {p : Pt} {c : Nat} {fs : List D} {t : Str} (I : Inv X pins σ H s) (e : Ex B H) (hp : PotAt ap H p) (hb : B ap = none) (r : Rep X.K cs ap B (.ins c fs) (.ref a)) (h : u c fs = some t) :
    ∃ (C f : Addr) (ox : Obj) (od : Option Obj), PySem.W.InstAt s.heap a ox C od ∧ PySem.W.findIn X.K (.ref C) "__repr__" = some (some (.ref f)) ∧ PySem.W.isFn X.K (.ref f) = true ∧
      wpAny (model X.prog X.w) A (call (.ref f) [.ref a]) (fun v s' => ∃ tk, v = .str t tk ∧ Aft X pins σ ap B H p s') X.xe s := by
  obtain ⟨C, fn, f', fd, ps, fm, T, hs, hf, F, hbd, hfm⟩ := U.of c fs t h
  obtain ⟨a', dx, fs', z, g1, g2, g3⟩ := rep_ins T r
  cases z
  obtain ⟨mA, J, _⟩ := ins_get I.hok (e _ _ g1)
  obtain ⟨od, J, _⟩ := J.look
  refine ⟨C, f', _, _, J, hs, hf, ?_⟩
  have hsp : spD X.K cs 1 fm [.ref a] H (fun v H' => v = .str t ∧ ∃ B', Nxt ap B H B' H' ∧ PotAt ap H' p) E0 := ⟨ap, B, _, p, _, p, rfl, e, hp, hb, reps_cons r reps_nil, hfm p, fun B' H' v n hp' r' => by
    simp only [Rep] at r'
    exact ⟨r', B', n, hp'⟩⟩
  have e0 : Env0 X.prog X.w X.K X.mg X.base A X.stack s H := by
    have z := I.env0
    exact ⟨by rw [sb.fr]; exact z.frames, z.mod, z.bs, z.bsz, z.funs, z.frf, z.hok, z.bare⟩
  have hl := F.len _ _ _ _ hsp
  have r2 : Vals [V.ref a] [Value.ref a] := .cons rfl .nil
  refine wpAny_call (codeAny_mono (F.run A X.stack s H ⟨[.ref a], []⟩ [.ref a] [.ref a] _ E0 sb.room (fun z => nomatch z) e0 (by
    have := hbd s [.ref a] I.kIn (by simpa using hl)
    simpa using this) r2 hsp) fun r s' hq => ?_)
  cases r with
  | error e => exact hq.elim
  | ok fl =>
    cases fl with
    | ret w =>
      obtain ⟨z, H', I', rz, ez, B', n', hp'⟩ := I.after hq
      subst ez
      obtain ⟨tk, rfl⟩ := rz
      exact ⟨tk, rfl, B', H', I', n', hp'⟩
    | next => exact hq.elim
    | brk => exact hq.elim
    | cont => exact hq.elim
theorem under_own {K : PySem.W.Frag} {A : Around} {E : Value → Shared → Prop} {prog : Program} {w : World} {s : Shared} {x C f : Addr} {ox : Obj} {od : Option Obj} {b : Nat} {t : Str} {Q : Str → Shared → Prop} (hu : A.units < cLine) (hb : b ≤ sizeLine) (X : K.In s.heap) (I : PySem.W.InstAt s.heap x ox C od)
    (hs : PySem.W.findIn K (.ref C) "__repr__" = some (some (.ref f))) (hf : PySem.W.isFn K (.ref f) = true) (h : wpAny (model prog w) A (call (.ref f) [.ref x]) (fun v s' => ∃ tk, v = .str t tk ∧ Q t s') E s) : wpAny (model prog w) A (pyReprUnder b (.ref x)) Q E s := by
  refine wpAny_pyReprUnder_ref hb ?_
  unfold pyReprObjUnder pyReprObjBy
  refine wpAny_bind (wpAny_cRoomFor hu ?_)
  refine wpAny_bind (wpAny_bind (I.type.here ((PySem.W.looks_findIn X hs).here ?_)))
  show wpAny _ _ (if (some (Value.ref f)).isNone = true then _ else _) _ _ _
  rw [if_neg (by simp)]
  refine wpAny_bind (ifBoundBy_K (name := Str.ofString "__repr__") X I hs hf ?_)
  show wpAny _ _ (call (.ref f) ([.ref x] ++ [])) _ _ _
  refine wpAny_mono h (fun v s' hv => ?_) fun _ _ y => y
  obtain ⟨tk, rfl, q⟩ := hv
  exact wpAny_bind (wpAny_isInstance (T := "str") (b := true) rfl isSubtype_str_str (wpAny_pure ⟨t, tk, rfl, q⟩))
end
end DL
end

section
set_option Elab.async false
set_option linter.all false
set_option maxRecDepth 100000
set_option maxHeartbeats 4000000
/-! DL: repr(x). -/
namespace DL
open PySem PySem.Spec PyProof.Rows L2
open Evl (Ex)
section
variable {X : Cx} {cs : CT}
theorem repT_cases {u : Nat → List D → Option Str} {n : Nat} {d : D} {t : Str} (h : repT u (n + 1) d = some t) :
    flT d = some t ∨ (∃ ds ts, d = .lst ds ∧ repL (repT u n) ds = some ts ∧ t = listText ts) ∨ (∃ ds ts, d = .tup ds ∧ repL (repT u n) ds = some ts ∧ t = tupleText ts) ∨ (∃ c fs, d = .ins c fs ∧ u c fs = some t) ∨ (d = .ed ∧ t = dictText []) := by
  unfold repT at h
  split at h
  · rename_i ds
    rcases z : repL (repT u n) ds with _ | ts
    · rw [z] at h; cases h
    · rw [z] at h; cases h; exact .inr (.inl ⟨ds, ts, rfl, z, rfl⟩)
  · rename_i ds
    rcases z : repL (repT u n) ds with _ | ts
    · rw [z] at h; cases h
    · rw [z] at h; cases h; exact .inr (.inr (.inl ⟨ds, ts, rfl, z, rfl⟩))
  · exact .inr (.inr (.inr (.inl ⟨_, _, rfl, h⟩)))
  · cases h; exact .inr (.inr (.inr (.inr ⟨rfl, rfl⟩)))
  · exact .inl h
theorem repS_rep {k : Nat} {u : Nat → List D → Option Str} (U : URep X cs k u) : ∀ n, RepS X cs (k + n) (repT u n)
  | 0 => RepS.mono repS_flat (Nat.zero_le _)
  | n + 1 => by
    intro A g pins s σ H B ap p base d v v' t sb hg gc I e hp hb r rv h hz
    rcases repT_cases h with h1 | ⟨ds, ts, rfl, h1, rfl⟩ | ⟨ds, ts, rfl, h1, rfl⟩ | ⟨c, fs, rfl, h1⟩ | ⟨rfl, rfl⟩
    · exact RepS.mono repS_flat (Nat.zero_le _) A g pins s σ H B ap p base d v v' t sb hg gc I e hp hb r rv h1 hz
    · have r' := r
      simp only [Rep] at r'
      obtain ⟨a, vs, rfl, ha, rr⟩ := r'
      cases rv
      have hb0 : base ≤ sizeLine := by omega
      obtain ⟨its, m, _, ho, _⟩ := I.lst (e _ _ ha)
      cases ds with
      | nil =>
        cases h1
        obtain ⟨o, n0, g1, g2, g3⟩ := list_at0 I e ha rr
        exact wpAny_pyReprUnder_ref hb0 (wpAny_pyReprObjUnder_list_empty ⟨_, g1, g2⟩ sb.room.units0 g1 g3 ⟨_, _, rfl, rfl, B, H, I.tok _, Nxt.refl e, hp⟩)
      | cons x ds =>
        refine wpAny_pyReprUnder_ref hb0 (wpAny_pyReprObjUnder_twin (twin := "list.__repr__.under") ⟨_, ho, rfl⟩ F.slot_list_repr.toG rfl sb.room.units0 ?_)
        refine call_twin_plain F.plain_list_repr_under F.entry_list_repr_under F.check_list_repr_under ⟨_, ho, rfl⟩ F.slot_list_repr.toG (F.args_list_repr_1 _) ?_
        exact list_at (R := callEnd _ X.xe) (n := k + n) (repS_rep U n) sb U.inj hg gc hb hp (fun e s' z => z) I e ha rr h1 hz fun s' tk a2 => ⟨⟨_, _, rfl⟩, _, _, rfl, rfl, a2⟩
    · have r' := r
      simp only [Rep] at r'
      obtain ⟨a, vs, rfl, ha, rr⟩ := r'
      cases rv
      have hb0 : base ≤ sizeLine := by omega
      obtain ⟨its, _, ⟨o, ho, hc, m, hd⟩, _⟩ := I.tuple (Evl.ex_t e ha)
      refine wpAny_pyReprUnder_ref hb0 (wpAny_pyReprObjUnder_twin (twin := "tuple.__repr__.under") ⟨_, ho, hc⟩ F.slot_tuple_repr rfl sb.room.units0 ?_)
      refine call_twin_own (F.quiet_tuple_repr_under _) F.entry_tuple_repr_under F.check_tuple_repr_under ⟨_, ho, hc⟩ F.slot_tuple_repr (F.args_tuple_repr_1 _) ?_
      exact tup_at (R := callEnd _ X.xe) (n := k + n) (repS_rep U n) sb (.inr rfl) (isGuard_tuple_repr_under _) (units_under_tuple_repr_under _ _) U.inj hg gc hb hp (fun e s' z => z) I e ha rr h1 hz fun s' tk a2 => ⟨⟨_, _, rfl⟩, _, _, rfl, rfl, a2⟩
    · obtain ⟨a, hv⟩ : ∃ a, v = .ref a := by
        simp only [Rep] at r
        obtain ⟨a, _, _, _, _, z, _⟩ := r
        exact ⟨a, z⟩
      subst hv
      cases rv
      obtain ⟨C, f, ox, od, J, hs, hf, hq⟩ := own_repr U (sb.mono (by omega : k ≤ k + (n + 1))) I e hp hb r h1
      refine under_own (t := t) sb.room.units0 (by omega) I.kIn J hs hf (wpAny_mono hq (fun v s' z => ?_) fun _ _ y => y)
      obtain ⟨tk, rfl, a2⟩ := z
      exact ⟨tk, rfl, rfl, a2⟩
    · simp only [Rep] at r
      obtain ⟨a, rfl, ha⟩ := r
      cases rv
      obtain ⟨o, es, m, g1, g2, g3, g4, g5⟩ := dict_at0 I e ha
      refine wpAny_pyReprUnder_ref (by omega) ?_
      refine wpAny_pyReprObjUnder_dictK (as := []) (h₀ := s.heap) (d := 0) (ps := []) g1 g2 g3 g5 (by simp) (by rw [g4]; exact .nil) hg (fun b hb => ?_) (by have := sb.room.un; omega) (fun _ _ z => z) (fun h' u tk hk => ⟨_, _, rfl, rfl, B, H, I.kept hk, Nxt.refl e, hp⟩) hz
      rcases List.mem_cons.mp hb with rfl | hb
      · exact gcl_clear U.inj I e hp ‹_› (by simp only [Rep]; exact ⟨b, rfl, ha⟩) gc
      · cases hb
/-- repr(x): an int, a list, a tuple, an instance -/
def cRepr (u : Nat → List D → Option Str) (n : Nat) : List D → Mo D := fun ds => match ds with
  | [.int i] => if i.natAbs.log2 < 1920 then retM (.str (toString i)) else failM
  | [.lst es] => match repT u (n + 1) (.lst es) with
    | some t => if t.length ≤ 10000000 then retM (.str t) else failM
    | none => failM
  | [.tup es] => match repT u (n + 1) (.tup es) with
    | some t => if t.length ≤ 10000000 then retM (.str t) else failM
    | none => failM
  | [.ins c fs] => match repT u (n + 1) (.ins c fs) with
    | some t => if t.length ≤ 10000000 then retM (.str t) else failM
    | none => failM
  | [.ed] => match repT u (n + 1) .ed with
    | some t => if t.length ≤ 10000000 then retM (.str t) else failM
    | none => failM
  | [.non] => retM (.str "None")
  | [.bl b] => retM (.str (if b then "True" else "False"))
  | [.str x] => if (reprText x).length ≤ 10000000 then retM (.str (reprText x)) else failM
  | _ => failM
def rRepr (X : Cx) (cs : CT) (u : Nat → List D → Option Str) (n : Nat) : List V → Hp → VK → Prop := fun vs H Q => (∃ i, vs = [.int i] ∧ i.natAbs.log2 < 1920 ∧ Q (.str (toString i)) H) ∨ (vs = [.non] ∧ Q (.str "None") H) ∨ (∃ b, vs = [.bl b] ∧ Q (.str (if b then "True" else "False")) H) ∨ (∃ x, vs = [.str x] ∧ (reprText x).length ≤ sizeLine ∧ Q (.str (reprText x)) H) ∨
  ∃ ap B p d v t, vs = [v] ∧ Ex B H ∧ PotAt ap H p ∧ B ap = none ∧ Rep X.K cs ap B d v ∧ ((∃ es, d = .lst es) ∨ (∃ es, d = .tup es) ∨ (∃ c fs, d = .ins c fs) ∨ d = .ed) ∧ repT u (n + 1) d = some t ∧ t.length ≤ sizeLine ∧ ∀ B' H', Nxt ap B H B' H' → PotAt ap H' p → Q (.str t) H'
theorem callR_repr {k : Nat} {u : Nat → List D → Option Str} (n : Nat) (U : URep X cs k u) (hr : Room (k + n + 2) X.A) (hg : X.A.guards = some []) : CallR X (.builtin "repr") (rRepr X cs u n) := by
  intro pins s σ H xs us Q I rv h
  rcases h with h | ⟨rfl, q⟩ | ⟨b, rfl, q⟩ | ⟨x, rfl, hz, q⟩ | ⟨ap, B, p, d, v, t, rfl, e, hp, hb, r, hs, ht, hz, q⟩
  · exact SkE.call_repr_int pins s σ H xs us Q I rv h
  · obtain ⟨u, rfl, rx⟩ := vals1 rv
    cases rx
    exact PySem.P.repr_of_none ⟨.str _, H, I.tok _, ⟨_, rfl⟩, q⟩
  · obtain ⟨u, rfl, rx⟩ := vals1 rv
    cases rx
    exact PySem.P.repr_of_bool ⟨.str _, H, I.tok _, ⟨_, rfl⟩, q⟩
  · obtain ⟨u, rfl, t, rfl⟩ := vals1 rv
    exact PySem.P.repr_of_str ⟨.str _, H, I.tok _, ⟨_, rfl⟩, q⟩ hz
  · obtain ⟨v', rfl, rx⟩ := vals1 rv
    have hu : X.A.units + 1 < cLine := by have := hr.un; omega
    have sb : Sub X (k + n + 1) X.A.in1 := ⟨hr.in1, rfl⟩
    have fin : ∀ {s' : Shared} {tk : Tok}, Aft X pins σ ap B H p s' → EP X pins σ Q (.str t tk) s' := fun {s' tk} ⟨B', H', I', n', hp'⟩ => ⟨.str t, H', I', ⟨tk, rfl⟩, q B' H' n' hp'⟩
    rcases repT_cases ht with h1 | ⟨ds, ts, rfl, h1, rfl⟩ | ⟨ds, ts, rfl, h1, rfl⟩ | ⟨c, fs, rfl, h1⟩ | ⟨rfl, rfl⟩
    · rcases hs with ⟨es, rfl⟩ | ⟨es, rfl⟩ | ⟨c, fs, rfl⟩ | rfl <;> cases h1
    · have r' := r
      simp only [Rep] at r'
      obtain ⟨a, vs, rfl, ha, rr⟩ := r'
      cases rx
      obtain ⟨its, m, _, ho, _⟩ := I.lst (e _ _ ha)
      refine call_repr_slot hu ⟨_, ho, rfl⟩ F.slot_list_repr.toG ?_
      cases ds with
      | nil =>
        cases h1
        obtain ⟨o, n0, g1, g2, g3⟩ := list_at0 I e ha rr
        exact call_list_repr_empty ⟨_, g1, g2⟩ g1 g3 ⟨_, _, rfl, fin ⟨B, H, I.tok _, Nxt.refl e, hp⟩⟩
      | cons x ds =>
        exact wpAny_call (codeAny_call_builtin F.slot_list_repr.plain F.entry_list_repr (F.slot_list_repr.check _ _ _ _ _ _ _ _ ⟨_, ho, rfl⟩ (F.args_list_repr_1 _)
          (list_at (base := 0) (R := callEnd _ X.xe) (n := k + n) (repS_rep U n) sb U.inj hg (fun id v rest kw z => nomatch z) hb hp (fun e s' z => z) I e ha rr h1 (by omega) fun s' tk a2 => ⟨_, _, rfl, fin a2⟩)))
    · have r' := r
      simp only [Rep] at r'
      obtain ⟨a, vs, rfl, ha, rr⟩ := r'
      cases rx
      obtain ⟨its, _, ⟨o, ho, hc, m, hd⟩, _⟩ := I.tuple (Evl.ex_t e ha)
      refine call_repr_slot hu ⟨_, ho, hc⟩ F.slot_tuple_repr ?_
      exact wpAny_call (codeAny_call_builtin_own (Code.quiet_builtin _ (by decide +kernel)) F.entry_tuple_repr (F.slot_tuple_repr.check _ _ _ _ _ _ _ _ ⟨_, ho, hc⟩ (F.args_tuple_repr_1 _)
        (tup_at (base := 0) (R := callEnd _ X.xe) (n := k + n) (repS_rep U n) sb (.inl rfl) (isGuard_tuple_repr _) (units_under_tuple_repr _ _) U.inj hg (fun id v rest kw z => nomatch z) hb hp (fun e s' z => z) I e ha rr h1 (by omega) fun s' tk a2 => ⟨_, _, rfl, fin a2⟩)))
    · obtain ⟨a, hv⟩ : ∃ a, v = .ref a := by
        simp only [Rep] at r
        obtain ⟨a, _, _, _, _, z, _⟩ := r
        exact ⟨a, z⟩
      subst hv
      cases rx
      obtain ⟨C, f, ox, od, J, hs, hf, hq⟩ := own_repr U (sb.mono (by omega : k ≤ k + n + 1)) I e hp hb r h1
      obtain ⟨m, hF⟩ := I.fr
      refine PySem.W.repr_K (by show X.A.units + 1 < cLine; exact hu) hF I.ok.mod.kin J hs hf (wpAny_mono hq (fun v s' z => ?_) fun _ _ y => y)
      obtain ⟨tk, rfl, a2⟩ := z
      exact fin a2
    · simp only [Rep] at r
      obtain ⟨a, rfl, ha⟩ := r
      cases rx
      obtain ⟨o, es, m, g1, g2, g3, g4, g5⟩ := dict_at0 I e ha
      refine call_repr_slot hu ⟨_, g1, g2⟩ F.slot_dict_repr ?_
      exact call_dict_reprK (as := []) (h₀ := s.heap) (d := 0) (ps := []) g1 g2 g3 g5 (by simp) (by rw [g4]; exact .nil) hg (fun b hb => Clear.nil b) (by have := hr.un; show X.A.units + 1 + (0 + 1) < cLine; omega) (fun _ _ z => z) (fun h' u tk hk => ⟨_, _, rfl, fin ⟨B, H, I.kept hk, Nxt.refl e, hp⟩⟩) hz
theorem ca_repr {k : Nat} {u : Nat → List D → Option Str} (n : Nat) (U : URep X cs k u) (hr : Room (k + n + 2) X.A) (hg : X.A.guards = some []) : CaD cs X (.builtin "repr") (cRepr u n) := by
  refine ⟨_, callR_repr n U hr hg, fun ap B H p ds vs Q d p' e hp hb r hm q => ?_⟩
  have fin : ∀ x v t, Rep X.K cs ap B x v → repT u (n + 1) x = some t → ((∃ es, x = .lst es) ∨ (∃ es, x = .tup es) ∨ (∃ c fs, x = .ins c fs) ∨ x = .ed) → (if t.length ≤ 10000000 then retM (D.str t) else failM) p = some (d, p') → rRepr X cs u n [v] H Q := by
    intro x v t rx ht hs hm
    split at hm
    · rename_i hz
      cases hm
      exact .inr (.inr (.inr (.inr ⟨ap, B, p, x, v, t, rfl, e, hp, hb, rx, hs, ht, Nat.le_trans hz (by rw [sizeLine_eq]; decide), fun B' H' n' hp' => q B' H' _ n' hp' (by simp only [Rep])⟩)))
    · cases hm
  unfold cRepr at hm
  split at hm
  · obtain ⟨v, rfl, rv⟩ := reps1 r
    simp only [Rep] at rv
    split at hm
    · rename_i i hi
      cases hm
      exact .inl ⟨i, by rw [rv], hi, q B H _ (Nxt.refl e) hp (by simp only [Rep])⟩
    · cases hm
  · rename_i es
    obtain ⟨v, rfl, rv⟩ := reps1 r
    rcases z : repT u (n + 1) (.lst es) with _ | t
    · rw [z] at hm; cases hm
    · rw [z] at hm; exact fin _ v t rv z (.inl ⟨_, rfl⟩) hm
  · rename_i es
    obtain ⟨v, rfl, rv⟩ := reps1 r
    rcases z : repT u (n + 1) (.tup es) with _ | t
    · rw [z] at hm; cases hm
    · rw [z] at hm; exact fin _ v t rv z (.inr (.inl ⟨_, rfl⟩)) hm
  · rename_i c es
    obtain ⟨v, rfl, rv⟩ := reps1 r
    rcases z : repT u (n + 1) (.ins c es) with _ | t
    · rw [z] at hm; cases hm
    · rw [z] at hm; exact fin _ v t rv z (.inr (.inr (.inl ⟨_, _, rfl⟩))) hm
  · obtain ⟨v, rfl, rv⟩ := reps1 r
    rcases z : repT u (n + 1) .ed with _ | t
    · rw [z] at hm; cases hm
    · rw [z] at hm; exact fin _ v t rv z (.inr (.inr (.inr rfl))) hm
  · obtain ⟨v, rfl, rv⟩ := reps1 r
    simp only [Rep] at rv
    cases hm
    exact .inr (.inl ⟨by rw [rv], q B H _ (Nxt.refl e) hp (by simp only [Rep])⟩)
  · rename_i b
    obtain ⟨v, rfl, rv⟩ := reps1 r
    simp only [Rep] at rv
    cases hm
    exact .inr (.inr (.inl ⟨b, by rw [rv], q B H _ (Nxt.refl e) hp (by simp only [Rep])⟩))
  · rename_i x
    obtain ⟨v, rfl, rv⟩ := reps1 r
    simp only [Rep] at rv
    split at hm
    · rename_i hz
      cases hm
      exact .inr (.inr (.inr (.inl ⟨x, by rw [rv], Nat.le_trans hz (by rw [sizeLine_eq]; decide), q B H _ (Nxt.refl e) hp (by simp only [Rep])⟩)))
    · cases hm
  · cases hm
end
end DL
end

section
set_option Elab.async false
set_option linter.all false
set_option maxRecDepth 100000
set_option maxHeartbeats 4000000
set_option exponentiation.threshold 20000
/-! DL: isinstance, texts, f-strings, lcm, divmod, lists unpacked. -/
namespace DL
open PySem PySem.Spec PyProof.Rows L2
open Evl (Ex)
section
variable {cs : CT} {X : Cx} {e a b : Expr} {es : List Expr} {m ma mb : Env' → Mo D} {pos : Pos}
/-! ### isinstance -/
theorem ta_two {K : PySem.W.Frag} {te : TE} {c : V} (h : EvE K cs te m) {ap : Addr} {H0 B0 B : Hp} {σ : L2.St} {env : Env'} {H : Hp} {p p1 : Pt} {d : D} {Q : List V → Hp → Prop} (k : Ok K cs ap H0 B0 B σ env H p) (e1 : m env p = some (d, p1))
    (q : ∀ B' H' v, Nxt ap B H B' H' → PotAt ap H' p1 → Rep K cs ap B' d v → Q [v, c] H') : tCons te (tCons (tC c) tNil) σ H Q :=
  h ap H0 B0 B σ env H p _ d p1 k e1 fun B' H' v n hp r => q B' H' v n hp r
theorem p_isT (T : String) {x : Str} {fp xp : Pos} (I : IsiF X.K cs) (hm : X.mg "isinstance" = none) (hx : X.mg x = none) (ha : PED cs X e m) (hv : bootBuiltins x = some (.type T) := by decide +kernel) (hb : bootBuiltins "isinstance" = some (.builtin "isinstance") := by decide +kernel) (hg : Gl X "isinstance" := by rfl) (hgx : Gl X x := by rfl)
    (hn : x ≠ "__name__" := by decide) (hd : (x == ("__debug__" : Str)) = false := by decide)
    (he : starEach [e, .Name x xp] X.env = (false, eval e X.env) :: starEach [.Name x xp] X.env := by rfl) (he2 : starEach [.Name x xp] X.env = (false, eval (.Name x xp) X.env) :: starEach [] X.env := by rfl) (hpl : (backTo pos (starEach [.Name x xp] X.env)).any (·.1) = false := by rfl) :
    PED cs X (.Call (.Name "isinstance" fp) [e, .Name x xp] [] pos) (mIsT T m) := by
  obtain ⟨te, h1, h2⟩ := ha.ex
  refine ⟨_, pe_callB call_isi hg hm hb (L2.pa_cons h1 (L2.pa_cons (pe_bltn (v := .ty T) hgx hx hv rfl hn hd) L2.pa_nil he2) he) (by decide) (by decide) he hpl, fun ap H0 B0 B σ env H p Q d p' k hmm q => ?_⟩
  obtain ⟨y, p1, e1, e2⟩ := bindM_some hmm
  rcases z : isT T y with _ | b
  · rw [z] at e2; cases e2
  · rw [z] at e2
    cases e2
    refine ta_two h2 k e1 fun B' H' v n hp r => ?_
    obtain ⟨t, t1, t2⟩ := kit_T I n.bh r z
    exact ⟨v, .ty T, t, .type T, b, rfl, .ty T, t1, t2, q B' H' _ n hp (by simp only [Rep])⟩
theorem isC_kit {K : PySem.W.Frag} {ap : Addr} {B H : Hp} {d : D} {v : V} {c : Nat} {C : Addr} {fn : List Str} {b : Bool} (I : IsiF K cs) (hc : cs c = some (C, fn)) (e : Ex B H) (r : Rep K cs ap B d v) (hb : isC c d = some b) : ∃ t, TyX K H v t ∧ PySem.W.kitOne K t (.ref C) = some b := by
  rcases ty_of I e r with ⟨n, h1, h2, h3⟩ | ⟨c', ds, C', fn', rfl, h1, h2⟩ | rfl
  · have hf : b = false := by
      cases d <;> simp only [tyN] at h1 <;> first | (cases h1; done) | (simp only [isC] at hb; cases hb; rfl)
    subst hf
    exact ⟨_, h3, I.o c C fn hc n h2⟩
  · simp only [isC] at hb
    cases hb
    exact ⟨_, h2, I.cc c' C' fn' c C fn h1 hc⟩
  · simp only [isC] at hb
    cases hb
theorem p_isC {c : Nat} {C : Addr} {fn : List Str} {x : Str} {fp xp : Pos} (I : IsiF X.K cs) (hc : cs c = some (C, fn)) (hm : X.mg "isinstance" = none) (hx : X.mg x = some (.ref C)) (ha : PED cs X e m) (hb : bootBuiltins "isinstance" = some (.builtin "isinstance") := by decide +kernel) (hg : Gl X "isinstance" := by rfl) (hgx : Gl X x := by rfl)
    (hd : (x == ("__debug__" : Str)) = false := by decide)
    (he : starEach [e, .Name x xp] X.env = (false, eval e X.env) :: starEach [.Name x xp] X.env := by rfl) (he2 : starEach [.Name x xp] X.env = (false, eval (.Name x xp) X.env) :: starEach [] X.env := by rfl) (hpl : (backTo pos (starEach [.Name x xp] X.env)).any (·.1) = false := by rfl) :
    PED cs X (.Call (.Name "isinstance" fp) [e, .Name x xp] [] pos) (mIsC c m) := by
  obtain ⟨te, h1, h2⟩ := ha.ex
  refine ⟨_, pe_callB call_isi hg hm hb (L2.pa_cons h1 (L2.pa_cons (pe_glob (v := .ref C) hgx hx rfl hd) L2.pa_nil he2) he) (by decide) (by decide) he hpl, fun ap H0 B0 B σ env H p Q d p' k hmm q => ?_⟩
  obtain ⟨y, p1, e1, e2⟩ := bindM_some hmm
  rcases z : isC c y with _ | b
  · rw [z] at e2; cases e2
  · rw [z] at e2
    cases e2
    refine ta_two h2 k e1 fun B' H' v n hp r => ?_
    obtain ⟨t, t1, t2⟩ := isC_kit I hc n.bh r z
    exact ⟨v, .ref C, t, .ref C, b, rfl, .own C, t1, t2, q B' H' _ n hp (by simp only [Rep])⟩
theorem kit_T2 {K : PySem.W.Frag} {ap : Addr} {B H : Hp} {d : D} {v : V} {T U : String} {b b' : Bool} (I : IsiF K cs) (e : Ex B H) (r : Rep K cs ap B d v) (hb : isT T d = some b) (hb' : isT U d = some b') : ∃ t, TyX K H v t ∧ PySem.W.kitOne K t (.type T) = some b ∧ PySem.W.kitOne K t (.type U) = some b' := by
  rcases ty_of I e r with ⟨n, h1, h2, h3⟩ | ⟨c, ds, C, fn, rfl, h1, h2⟩ | rfl
  · exact ⟨_, h3, isT_kit h1 hb, isT_kit h1 hb'⟩
  · have e1 := isT_ins hb
    have e2 := isT_ins hb'
    subst e1; subst e2
    exact ⟨_, h2, I.b c C fn h1 T (isT_mem hb), I.b c C fn h1 U (isT_mem hb')⟩
  · unfold isT at hb
    split at hb <;> cases hb <;> rename_i h <;> cases h
theorem p_isT2 (T U : String) {x y : Str} {fp xp yp tp : Pos} {kk} (I : IsiF X.K cs) (hm : X.mg "isinstance" = none) (hx : X.mg x = none) (hy : X.mg y = none) (ha : PED cs X e m) (hv : bootBuiltins x = some (.type T) := by decide +kernel) (hw : bootBuiltins y = some (.type U) := by decide +kernel)
    (hb : bootBuiltins "isinstance" = some (.builtin "isinstance") := by decide +kernel) (hg : Gl X "isinstance" := by rfl) (hgx : Gl X x := by rfl) (hgy : Gl X y := by rfl)
    (hn : x ≠ "__name__" := by decide) (hd : (x == ("__debug__" : Str)) = false := by decide) (hn' : y ≠ "__name__" := by decide) (hd' : (y == ("__debug__" : Str)) = false := by decide)
    (he : starEach [e, .Tuple [.Name x xp, .Name y yp] kk tp] X.env = (false, eval e X.env) :: starEach [.Tuple [.Name x xp, .Name y yp] kk tp] X.env := by rfl) (he2 : starEach [.Tuple [.Name x xp, .Name y yp] kk tp] X.env = (false, eval (.Tuple [.Name x xp, .Name y yp] kk tp) X.env) :: starEach [] X.env := by rfl)
    (ht1 : starEach [.Name x xp, .Name y yp] X.env = (false, eval (.Name x xp) X.env) :: starEach [.Name y yp] X.env := by rfl) (ht2 : starEach [.Name y yp] X.env = (false, eval (.Name y yp) X.env) :: starEach [] X.env := by rfl)
    (hpl : (backTo pos (starEach [.Tuple [.Name x xp, .Name y yp] kk tp] X.env)).any (·.1) = false := by rfl) :
    PED cs X (.Call (.Name "isinstance" fp) [e, .Tuple [.Name x xp, .Name y yp] kk tp] [] pos) (mIsT2 T U m) := by
  obtain ⟨te, h1, h2⟩ := ha.ex
  refine ⟨_, pe_callB call_isiT hg hm hb (L2.pa_cons h1 (L2.pa_cons (pe_tup (L2.pa_cons (pe_bltn (v := .ty T) hgx hx hv rfl hn hd) (L2.pa_cons (pe_bltn (v := .ty U) hgy hy hw rfl hn' hd') L2.pa_nil ht2) ht1)) L2.pa_nil he2) he) (by decide) (by decide) he hpl, fun ap H0 B0 B σ env H p Q d p' k hmm q => ?_⟩
  obtain ⟨w, p1, e1, e2⟩ := bindM_some hmm
  rcases z : isT T w with _ | b
  · rw [z] at e2; cases e2
  · rcases z2 : isT U w with _ | b'
    · rw [z, z2] at e2; cases e2
    · rw [z, z2] at e2
      cases e2
      refine h2 ap H0 B0 B σ env H p _ w p' k e1 fun B1 H1 v n hp r => ⟨sz100 (by simp only [List.length_cons, List.length_nil]; omega), fun t ht => ?_⟩
      have n2 : Nxt ap B1 H1 (upd B1 t (.tup [.ty T, .ty U])) (upd H1 t (.tup [.ty T, .ty U])) := Nxt.new n.bh ht
      obtain ⟨t1, g1, g2, g4⟩ := kit_T2 I n2.bh (r.mono n2.bb) z z2
      refine ⟨v, t, [.ty T, .ty U], t1, [.type T, .type U], b || b', rfl, upd_same, .cons (.ty T) (.cons (.ty U) .nil), g1, ?_, q _ _ _ (n.trans n2) (hp.new ht) (by simp only [Rep])⟩
      refine kitAny_cons g2 (fun hb => ?_) (fun hb => by rw [hb]; rfl)
      subst hb
      exact kitAny_cons g4 (fun hb => by subst hb; rfl) (fun hb => by rw [hb]; rfl)
/-! ### is None -/
def dIsN (neg : Bool) : D → D → Mo D := fun x y => match y with
  | .non => match x with
    | .non => retM (.bl (!neg))
    | .pot => failM
    | _ => retM (.bl neg)
  | _ => failM
theorem isN_val {K : PySem.W.Frag} {ap : Addr} {B : Hp} {x : D} {v : V} (r : Rep K cs ap B x v) : decide (v = V.non) = (match x with | .non => true | _ => false) := by
  cases x with
  | non => simp only [Rep] at r; subst r; simp
  | bl b => simp only [Rep] at r; subst r; simp
  | int b => simp only [Rep] at r; subst r; simp
  | str b => simp only [Rep] at r; subst r; simp
  | lst ds => simp only [Rep] at r; obtain ⟨a, _, rfl, _⟩ := r; simp
  | tup ds => simp only [Rep] at r; obtain ⟨a, _, rfl, _⟩ := r; simp
  | ins c ds => simp only [Rep] at r; obtain ⟨a, _, _, _, _, rfl, _⟩ := r; simp
  | pot => simp only [Rep] at r; subst r; simp
  | ed => simp only [Rep] at r; obtain ⟨a, rfl, _⟩ := r; simp
theorem op_isND : OpD cs X (compareOp .Is) (dIsN false) := by
  refine ⟨_, op_isN, fun ap B H p x y v u Q d p' e hp hb rx ry hm q => ?_⟩
  unfold dIsN at hm
  split at hm
  · simp only [Rep] at ry
    refine ⟨ry, ?_⟩
    rw [isN_val rx]
    cases x <;> first | (cases hm; done) | (cases hm; exact q B H _ (Nxt.refl e) hp (by first | (simp only [Rep]; done) | (simp only [Rep]; rfl)))
  · cases hm
theorem op_notND : OpD cs X (compareOp .IsNot) (dIsN true) := by
  refine ⟨_, op_notN, fun ap B H p x y v u Q d p' e hp hb rx ry hm q => ?_⟩
  unfold dIsN at hm
  split at hm
  · simp only [Rep] at ry
    refine ⟨ry, ?_⟩
    rw [isN_val rx]
    cases x <;> first | (cases hm; done) | (cases hm; exact q B H _ (Nxt.refl e) hp (by first | (simp only [Rep]; done) | (simp only [Rep]; rfl)))
  · cases hm
/-! ### a minus sign -/
def dNegI : D → Mo D := fun x => match x with
  | .int i => retM (.int (-i))
  | _ => failM
theorem p_neg (ha : PED cs X a ma) : PED cs X (.UnaryOp .USub a pos) (mUn dNegI ma) := by
  obtain ⟨ta, a1, a2⟩ := ha.ex
  refine ⟨_, pe_un un_neg a1, fun ap H0 B0 B σ env H p Q d p' k hm q => ?_⟩
  obtain ⟨x, p1, e1, e2⟩ := bindM_some hm
  cases x <;> first | (cases e2; done) | skip
  rename_i i
  cases e2
  refine a2 ap H0 B0 B σ env H p _ _ p' k e1 fun B1 H1 v n1 hp1 r1 => ?_
  simp only [Rep] at r1
  exact ⟨i, r1, q B1 H1 _ n1 hp1 (by simp only [Rep])⟩
/-! ### texts -/
def cStr : List D → Mo D
  | [.int i] => if i.natAbs.log2 < 1920 then retM (.str (toString i)) else failM
  | _ => failM
theorem ca_str : CaD cs X (.type "str") cStr := by
  refine ⟨_, call_str_int, fun ap B H p ds vs Q d p' e hp hb r hm q => ?_⟩
  unfold cStr at hm
  split at hm
  · split at hm
    · rename_i hi
      cases hm
      obtain ⟨v, rfl, rv⟩ := reps1 r
      simp only [Rep] at rv
      exact ⟨_, by rw [rv], hi, q B H _ (Nxt.refl e) hp (by simp only [Rep])⟩
    · cases hm
  · cases hm
def mSlS (a : Env' → Mo D) (lo hi : Env' → Mo (Option Int)) : Env' → Mo D := fun env => bindM (a env) fun x => bindM (lo env) fun l => bindM (hi env) fun h => match x with
  | .str z => if z.length ≤ 10000000 then retM (.str (cutS z l h)) else failM
  | _ => failM
theorem str_fits {z : Str} (h : z.length ≤ 10000000) : z.length ≤ sizeLine := Nat.le_trans h (by rw [sizeLine_eq]; decide)
theorem p_slS {lo hi : Option Expr} {p2 : Pos} {ml mh : Env' → Mo (Option Int)} (ha : PED cs X a ma) (hl : POx cs X lo ml) (hh : POx cs X hi mh) : PED cs X (.Subscript a (.Slice lo hi none p2) pos) (mSlS ma ml mh) := by
  obtain ⟨ta, a1, a2⟩ := ha.ex
  obtain ⟨tl, l1, l2⟩ := hl.ex
  obtain ⟨th, u1, u2⟩ := hh.ex
  refine ⟨_, pe_slice sl_str a1 l1 u1, fun ap H0 B0 B σ env H p Q d p' k hm q => ?_⟩
  obtain ⟨x, p1, e1, e2⟩ := bindM_some hm
  obtain ⟨l, p2, e3, e4⟩ := bindM_some e2
  obtain ⟨u, p3, e5, e6⟩ := bindM_some e4
  split at e6
  · rename_i z
    split at e6
    · rename_i hz
      cases e6
      refine a2 ap H0 B0 B σ env H p _ _ p1 k e1 fun B1 H1 v n1 hp1 r1 => ?_
      have k1 := k.nxt n1 hp1
      refine l2 ap H0 B0 B1 σ env H1 p1 _ _ p2 k1 e3 fun B2 H2 n2 hp2 => ?_
      have k2 := k1.nxt n2 hp2
      refine u2 ap H0 B0 B2 σ env H2 p2 _ _ p' k2 e5 fun B3 H3 n3 hp3 => ?_
      simp only [Rep] at r1
      exact ⟨z, r1, str_fits hz, q B3 H3 _ ((n1.trans n2).trans n3) hp3 (by simp only [Rep])⟩
    · cases e6
  · cases e6
/-! ### f-strings -/
def mFmt (a : Env' → Mo D) : Env' → Mo D := fun env => bindM (a env) fun x => match x with
  | .str y => if y.length ≤ 10000000 then retM (.str y) else failM
  | .int i => if i.natAbs.log2 < 1920 then retM (.str (toString i)) else failM
  | _ => failM
theorem p_fmt (ha : PED cs X a ma) : PED cs X (.FormattedValue a (-1) none pos) (mFmt ma) := by
  obtain ⟨ta, a1, a2⟩ := ha.ex
  refine ⟨_, pe_fmt a1, fun ap H0 B0 B σ env H p Q d p' k hm q => ?_⟩
  obtain ⟨x, p1, e1, e2⟩ := bindM_some hm
  split at e2
  · rename_i y
    split at e2
    · rename_i hz
      cases e2
      refine a2 ap H0 B0 B σ env H p _ _ p' k e1 fun B1 H1 v n1 hp1 r1 => ?_
      simp only [Rep] at r1
      exact .inl ⟨y, r1, str_fits hz, q B1 H1 _ n1 hp1 (by simp only [Rep])⟩
    · cases e2
  · rename_i i
    split at e2
    · rename_i hz
      cases e2
      refine a2 ap H0 B0 B σ env H p _ _ p' k e1 fun B1 H1 v n1 hp1 r1 => ?_
      simp only [Rep] at r1
      exact .inr ⟨i, r1, hz, q B1 H1 _ n1 hp1 (by simp only [Rep])⟩
    · cases e2
  · cases e2
def mJoin : List (Env' → Mo D) → Str → Env' → Mo Str
  | [], acc, _ => retM acc
  | m :: ms, acc, env => bindM (m env) fun x => match x with
    | .str y => if (acc ++ y).length ≤ 10000000 then mJoin ms (acc ++ y) env else failM
    | _ => failM
def mJs (ms : List (Env' → Mo D)) : Env' → Mo D := fun env => bindM (mJoin ms Str.empty env) fun t => retM (.str t)
inductive EvJs (K : PySem.W.Frag) (cs : CT) : List TE → List (Env' → Mo D) → Prop where
  | nil : EvJs K cs [] []
  | cons {t : TE} {m : Env' → Mo D} {ts : List TE} {ms : List (Env' → Mo D)} (h : EvE K cs t m) (r : EvJs K cs ts ms) : EvJs K cs (t :: ts) (m :: ms)
structure PJs (cs : CT) (X : Cx) (es : List Expr) (ms : List (Env' → Mo D)) : Prop where
  ex : ∃ ts, PJ X es ts ∧ EvJs X.K cs ts ms
theorem js_nil : PJs cs X [] [] := ⟨[], .nil, .nil⟩
theorem js_cons {ms : List (Env' → Mo D)} (ha : PED cs X a ma) (hr : PJs cs X es ms) : PJs cs X (a :: es) (ma :: ms) := by
  obtain ⟨ta, a1, a2⟩ := ha.ex
  obtain ⟨ts, t1, t2⟩ := hr.ex
  exact ⟨ta :: ts, .cons a1 t1, .cons a2 t2⟩
theorem js_ev {K : PySem.W.Frag} {ts : List TE} {ms : List (Env' → Mo D)} (h : EvJs K cs ts ms) : ∀ ap H0 B0 B σ env H p acc (Q : Str → Hp → Prop) t p', Ok K cs ap H0 B0 B σ env H p → mJoin ms acc env p = some (t, p') → (∀ B' H', Nxt ap B H B' H' → PotAt ap H' p' → Q t H') → tJs ts acc σ H Q := by
  induction h with
  | nil =>
    intro ap H0 B0 B σ env H p acc Q t p' k hm q
    cases hm
    exact q B H (Nxt.refl k.bh) k.pot
  | @cons te m ts ms h r ih =>
    intro ap H0 B0 B σ env H p acc Q t p' k hm q
    obtain ⟨x, p1, e1, e2⟩ := bindM_some (m := m env) hm
    split at e2
    · rename_i y
      split at e2
      · rename_i hz
        refine h ap H0 B0 B σ env H p _ _ p1 k e1 fun B1 H1 v n1 hp1 r1 => ?_
        simp only [Rep] at r1
        exact ⟨y, r1, str_fits hz, ih ap H0 B0 B1 σ env H1 p1 (acc ++ y) Q t p' (k.nxt n1 hp1) e2 fun B2 H2 n2 hp2 => q B2 H2 (n1.trans n2) hp2⟩
      · cases e2
    · cases e2
theorem p_js {v1 v2 : Expr} {rest : List Expr} {ms : List (Env' → Mo D)} (h : PJs cs X (v1 :: v2 :: rest) ms) : PED cs X (.JoinedStr (v1 :: v2 :: rest) pos) (mJs ms) := by
  obtain ⟨ts, t1, t2⟩ := h.ex
  refine ⟨_, pe_joined t1, fun ap H0 B0 B σ env H p Q d p' k hm q => ?_⟩
  obtain ⟨t, p1, e1, e2⟩ := bindM_some hm
  cases e2
  exact js_ev t2 ap H0 B0 B σ env H p Str.empty _ t p' k e1 fun B' H' n hp => q B' H' _ n hp (by simp only [Rep])
theorem p_js1 (ha : PED cs X a ma) : PED cs X (.JoinedStr [a] pos) ma := by
  obtain ⟨ta, a1, a2⟩ := ha.ex
  exact ⟨_, pe_joined1 a1, a2⟩
/-! ### lists unpacked -/
def tgLst (n : Nat) (b : MGs) : MG := fun d env => match d with
  | .lst ds => if ds.length = n then b ds env else none
  | _ => none
theorem lst_ev {K : PySem.W.Frag} {n : Nat} {g : TGs} {b : MGs} {sl : List Nat} (h : EvGs K cs g sl b) : EvG K cs (gLst K n g) sl (tgLst n b) := by
  intro ap H0 B0 B σ env H p Q d v env' k r hm q
  unfold tgLst at hm
  split at hm
  · split at hm
    · rename_i ds hl
      simp only [Rep] at r
      obtain ⟨a, xs, rfl, h1, h2⟩ := r
      exact ⟨a, xs, rfl, SqL.of (k.bh _ _ h1), by rw [h2.length]; exact hl, h ap H0 B0 B σ env H p Q ds xs env' k h2 hm q⟩
    · cases hm
  · cases hm
theorem g_lst {es : List Expr} {kk n : Nat} {b : MGs} {sl : List Nat} (hc : X.calm = true) (h : PGsD cs X es sl b) (hn : (assignEach es X.env).length = n := by rfl) (hst : (assignEach es X.env).findIdx? (·.1) = none := by rfl) : PGD cs X (.Tuple es kk pos) sl (tgLst n b) := by
  obtain ⟨g, g1, g2⟩ := h.ex
  exact ⟨_, pg_lst hc g1 hn hst, lst_ev g2⟩
/-! ### lcm, divmod -/
def cLcm : List D → Mo D
  | [.int i, .int j] => if i.natAbs < bigN ∧ j.natAbs < bigN then retM (.int ((Nat.lcm i.natAbs j.natAbs : Nat) : Int)) else failM
  | _ => failM
theorem lcm_le {a b : Nat} : Nat.lcm a b ≤ a * b := Nat.div_le_self _ _
theorem ca_lcm : CaD cs X (.builtin "math.lcm") cLcm := by
  refine ⟨fun vs H Q => ∃ i j : Int, vs = [.int i, .int j] ∧ i.natAbs < bigN ∧ j.natAbs < bigN ∧ Q (.int ((Nat.lcm i.natAbs j.natAbs : Nat) : Int)) H, ?_, fun ap B H p ds vs Q d p' e hp hb r hm q => ?_⟩
  · intro pins s σ H vs us Q I r h
    obtain ⟨i, j, rfl, hi, hj, q⟩ := h
    obtain ⟨t, u, rfl⟩ := Vals.int2 r
    have h1 : (max 1 i.natAbs).log2 ≤ 4399 := PySem.W.mg_log (by
      have : 1 < 2 ^ (4399 + 1) := by decide +kernel
      show max 1 i.natAbs < 2 ^ (4399 + 1)
      rw [Nat.max_lt]
      exact ⟨this, hi⟩)
    have h2 : (max i.natAbs j.natAbs).log2 ≤ 4399 := PySem.W.mg_log (by
      show max i.natAbs j.natAbs < 2 ^ (4399 + 1)
      rw [Nat.max_lt]
      exact ⟨hi, hj⟩)
    have g := PySem.W.mg_run_lcm i t j u (by omega) (by omega) (by
      rw [Nat.lcm_one_left, Int.natAbs_natCast]
      have h3 : Nat.lcm i.natAbs j.natAbs < 2 ^ (8799 + 1) := by
        refine Nat.lt_of_le_of_lt lcm_le (Nat.lt_of_lt_of_le (Nat.mul_lt_mul'' hi hj) ?_)
        unfold bigN
        rw [← Nat.pow_add]
        exact Nat.le_refl _
      have h4 := PySem.W.mg_log h3
      exact Nat.lt_of_le_of_lt h4 (by decide +kernel))
    rw [Nat.lcm_one_left] at g
    exact call_function_meets PySem.W.MGF.kind_lcm PySem.W.MGF.plain_lcm PySem.W.MGF.entry_lcm (PySem.W.MGF.args_lcm _ _) g.meets ⟨.int _, H, I.tok _, ⟨_, rfl⟩, q⟩
  · unfold cLcm at hm
    split at hm
    · split at hm
      · rename_i hz
        cases hm
        obtain ⟨v, w, rfl, rv, rw'⟩ := reps2 r
        simp only [Rep] at rv rw'
        exact ⟨_, _, by rw [rv, rw'], hz.1, hz.2, q B H _ (Nxt.refl e) hp (by simp only [Rep])⟩
      · cases hm
    · cases hm
end
end DL
end

section
set_option Elab.async false
set_option linter.all false
set_option maxRecDepth 100000
set_option maxHeartbeats 4000000
/-! DL: the drawing pot. -/
namespace DL
open PySem PySem.Spec PyProof.Rows L2
open Evl (Ex)
section
variable {K : PySem.W.Frag} {cs : CT} {ap : Addr} {H0 B0 B H : Hp} {σ : L2.St} {env : Env'} {p : Pt}
theorem Ok.potset (k : Ok K cs ap H0 B0 B σ env H p) (p' : Pt) : Ok K cs ap H0 B0 B σ env (upd H ap (.lst [.int p'.1, .int p'.2])) p' := by
  refine k.nxt ⟨Ex.refl _, fun a o h => ?_, fun a _ h => h, fun a o h ha => ?_, fun a h => ?_⟩ upd_same
  · have e : a ≠ ap := fun z => by rw [z, k.bap] at h; cases h
    rw [upd_ne e]; exact k.bh _ _ h
  · rw [upd_ne ha]; exact h
  · by_cases e : a = ap
    · subst e; rw [upd_same]; exact fun z => nomatch z
    · rw [upd_ne e]; exact h
end
def mPot (i : Nat) (k : Bool) : Env' → Mo D := fun env p => match env[i]? with
  | some (.val .pot) => some (.int (if k = true then p.2 else p.1), p)
  | _ => none
def mSetPot (i : Nat) (k : Bool) (m : Env' → Mo D) : MS := fun env => bindM (m env) fun d p => match d with
  | .int n => match env[i]? with
    | some (.val .pot) => some ((.nx, env), if k = true then (p.1, n) else (n, p.2))
    | _ => none
  | _ => none
def mPotDiv (i j : Nat) (m : Env' → Mo D) : MS := fun env => bindM (m env) fun d p => match d with
  | .tup [.int q, e] => match env[i]? with
    | some (.val .pot) => some ((.nx, env.set j (.val e)), (q, p.2))
    | _ => none
  | _ => none
section
variable {cs : CT} {X : Cx} {e a b : Expr} {es : List Expr} {m ma mb : Env' → Mo D} {pos : Pos}
theorem pot_slot {K : PySem.W.Frag} {ap : Addr} {H0 B0 B : Hp} {σ : L2.St} {env : Env'} {H : Hp} {p : Pt} (k : Ok K cs ap H0 B0 B σ env H p) {i : Nat} (g : env[i]? = some (.val .pot)) : σ[i]? = some (some (.ref ap)) := by
  obtain ⟨v, h1, h2⟩ := k.sl i _ g
  simp only [Rep] at h2
  rw [h1, h2]
theorem p_potIx (i : Nat) (kb : Bool) {n : Int} {x : Str} {p1 p2 : Pos} {kk} (hk : n = (if kb = true then 1 else 0) := by rfl) (hN : X.N[i]? = some x := by rfl) (hv : Vis X.env.scope x := by first | exact Or.inl rfl | exact Or.inr (Or.inl rfl) | exact Or.inr (Or.inr rfl)) (hd : (x == ("__debug__" : Str)) = false := by decide)
    (hcd : (x == ("__classdict__" : Str)) = false := by decide) (hs : PlainIx (.Constant (.int n) kk p2) := by exact fun _ _ => rfl) : PED cs X (.Subscript (.Name x p1) (.Constant (.int n) kk p2) pos) (mPot i kb) := by
  refine ⟨_, pe_ix ix_seq (pe_var hN hv hd hcd) pe_int hs, fun ap H0 B0 B σ env H p Q d p' k hm q => ?_⟩
  unfold mPot at hm
  rcases g : env[i]? with _ | _ | d' | _ | _
  · rw [g] at hm; cases hm
  · rw [g] at hm; cases hm
  · rw [g] at hm
    cases d' <;> first | (cases hm; done) | skip
    cases hm
    refine ⟨.ref ap, pot_slot k g, .inl ⟨ap, _, n, .int (if kb = true then p.2 else p.1), rfl, rfl, SqL.of k.pot, ?_, q B H _ (Nxt.refl k.bh) k.pot (by simp only [Rep])⟩⟩
    subst hk
    cases kb <;> rfl
  · rw [g] at hm; cases hm
  · rw [g] at hm; cases hm
theorem s_setPot (i : Nat) (kb : Bool) {n : Int} {x : Str} {p1 p2 tpos : Pos} {kk} (h : PED cs X e m) (hk : n = (if kb = true then 1 else 0) := by rfl) (hN : X.N[i]? = some x := by rfl) (hv : Vis X.env.scope x := by first | exact Or.inl rfl | exact Or.inr (Or.inl rfl) | exact Or.inr (Or.inr rfl)) (hd : (x == ("__debug__" : Str)) = false := by decide)
    (hcd : (x == ("__classdict__" : Str)) = false := by decide)
    (ha : ∀ v, assign (.Subscript (.Name x p1) (.Constant (.int n) kk p2) tpos) X.env v = (do
      let ov ← holding [v] (eval (.Name x p1) X.env)
      let iv ← holding [v, ov] (eval (.Constant (.int n) kk p2) X.env)
      standAt tpos
      holding [v, ov, iv] (setItem ov iv v)
      release [v, ov, iv] []) := by intro _; rfl)
    (hs : swapsWithSole [.Subscript (.Name x p1) (.Constant (.int n) kk p2) tpos] e pos.line X.env = pure false := by rfl) (hw : swappedStores [.Subscript (.Name x p1) (.Constant (.int n) kk p2) tpos] e X.env = pure none := by rfl)
    (h1 : (assignEach [.Subscript (.Name x p1) (.Constant (.int n) kk p2) tpos] X.env).map (·.2) = [assign (.Subscript (.Name x p1) (.Constant (.int n) kk p2) tpos) X.env] := by rfl) :
    PSD cs X (.Assign [.Subscript (.Name x p1) (.Constant (.int n) kk p2) tpos] e pos) (mSetPot i kb m) := by
  obtain ⟨te, a1, a2⟩ := h.ex
  refine ⟨_, ps_asg a1 (pg_sub (pe_var hN hv hd hcd) pe_int set_list ha) hs hw h1, fun ap H0 B0 B σ env H p E o env' p' k hm q => ?_⟩
  obtain ⟨d, p1, e1, e2⟩ := bindM_some hm
  cases d <;> first | (cases e2; done) | skip
  rename_i nn
  dsimp only at e2
  rcases g : env[i]? with _ | _ | d' | _ | _
  · rw [g] at e2; cases e2
  · rw [g] at e2; cases e2
  · rw [g] at e2
    cases d' <;> first | (cases e2; done) | skip
    cases e2
    refine a2 ap H0 B0 B σ env H p _ _ p1 k e1 fun B1 H1 v n1 hp1 r1 => ?_
    have k1 := k.nxt n1 hp1
    simp only [Rep] at r1
    subst r1
    have fin := q B1 σ _ n1.bb (k1.potset (if kb = true then (p1.1, nn) else (nn, p1.2)))
    refine ⟨.ref ap, pot_slot k1 g, ap, _, n, (if kb = true then 1 else 0), rfl, rfl, hp1, ?_, ?_⟩
    · subst hk
      cases kb <;> rfl
    · cases kb <;> exact fin
  · rw [g] at e2; cases e2
  · rw [g] at e2; cases e2
theorem s_potDiv (i j : Nat) {x y : Str} {p1 p2 tpos py tp : Pos} {kk kt} (hc : X.calm = true) (hNd : X.N.Nodup) (h : PED cs X e m) (hN : X.N[i]? = some x := by rfl) (hv : Vis X.env.scope x := by first | exact Or.inl rfl | exact Or.inr (Or.inl rfl) | exact Or.inr (Or.inr rfl)) (hd : (x == ("__debug__" : Str)) = false := by decide)
    (hcd : (x == ("__classdict__" : Str)) = false := by decide)
    (ha : ∀ v, assign (.Subscript (.Name x p1) (.Constant (.int 0) kk p2) tpos) X.env v = (do
      let ov ← holding [v] (eval (.Name x p1) X.env)
      let iv ← holding [v, ov] (eval (.Constant (.int 0) kk p2) X.env)
      standAt tpos
      holding [v, ov, iv] (setItem ov iv v)
      release [v, ov, iv] []) := by intro _; rfl)
    (hj : X.N[j]? = some y := by rfl) (hy : Loc X.env.scope y := by first | exact Or.inl rfl | exact Or.inr rfl) (hf : X.fn y = true ∨ X.env.scope.names.lookup y = some .local := by first | exact .inl rfl | exact .inr rfl)
    (hg1 : (assignEach [.Subscript (.Name x p1) (.Constant (.int 0) kk p2) tpos, .Name y py] X.env).map (·.2) = assign (.Subscript (.Name x p1) (.Constant (.int 0) kk p2) tpos) X.env :: (assignEach [.Name y py] X.env).map (·.2) := by rfl)
    (hg2 : (assignEach [.Name y py] X.env).map (·.2) = assign (.Name y py) X.env :: (assignEach [] X.env).map (·.2) := by rfl)
    (hn : (assignEach [.Subscript (.Name x p1) (.Constant (.int 0) kk p2) tpos, .Name y py] X.env).length = 2 := by rfl) (hst : (assignEach [.Subscript (.Name x p1) (.Constant (.int 0) kk p2) tpos, .Name y py] X.env).findIdx? (·.1) = none := by rfl)
    (hs : swapsWithSole [.Tuple [.Subscript (.Name x p1) (.Constant (.int 0) kk p2) tpos, .Name y py] kt tp] e pos.line X.env = pure false := by rfl) (hw : swappedStores [.Tuple [.Subscript (.Name x p1) (.Constant (.int 0) kk p2) tpos, .Name y py] kt tp] e X.env = pure none := by rfl)
    (h1 : (assignEach [.Tuple [.Subscript (.Name x p1) (.Constant (.int 0) kk p2) tpos, .Name y py] kt tp] X.env).map (·.2) = [assign (.Tuple [.Subscript (.Name x p1) (.Constant (.int 0) kk p2) tpos, .Name y py] kt tp) X.env] := by rfl) :
    PSD cs X (.Assign [.Tuple [.Subscript (.Name x p1) (.Constant (.int 0) kk p2) tpos, .Name y py] kt tp] e pos) (mPotDiv i j m) := by
  obtain ⟨te, a1, a2⟩ := h.ex
  refine ⟨_, ps_asg a1 (pg_tup hc (pgs_cons (pg_sub (pe_var hN hv hd hcd) pe_int set_list ha) (pgs_cons (pg_name hNd hj hy hf) pgs_nil hg2) hg1) hn hst) hs hw h1, fun ap H0 B0 B σ env H p E o env' p' k hm q => ?_⟩
  obtain ⟨d, p1, e1, e2⟩ := bindM_some hm
  split at e2
  · rename_i qq ee
    rcases g : env[i]? with _ | _ | d' | _ | _
    · rw [g] at e2; cases e2
    · rw [g] at e2; cases e2
    · rw [g] at e2
      cases d' <;> first | (cases e2; done) | skip
      cases e2
      refine a2 ap H0 B0 B σ env H p _ _ p1 k e1 fun B1 H1 v n1 hp1 r1 => ?_
      have k1 := k.nxt n1 hp1
      simp only [Rep] at r1
      obtain ⟨t, xs, rfl, h3, rr⟩ := r1
      obtain ⟨v1, v2, rfl, r1, r2⟩ := reps2 rr
      simp only [Rep] at r1
      subst r1
      refine ⟨t, _, rfl, Evl.ex_t n1.bh h3, rfl, _, _, rfl, ⟨.ref ap, pot_slot k1 g, ap, _, 0, 0, rfl, rfl, hp1, rfl, ?_⟩⟩
      have k2 := k1.potset (qq, p1.2)
      exact ⟨_, _, rfl, rfl, q B1 _ _ n1.bb (k2.setv' r2)⟩
    · rw [g] at e2; cases e2
    · rw [g] at e2; cases e2
  · cases e2
def cDivmod : List D → Mo D
  | [.int i, .int j] => if 0 < j ∧ j < 2 ^ 64 then retM (.tup [.int (i / j), .int (i % j)]) else failM
  | _ => failM
theorem ca_divmod : CaD cs X (.builtin "divmod") cDivmod := by
  refine ⟨_, call_divmodW, fun ap B H p ds vs Q d p' e hp hb r hm q => ?_⟩
  unfold cDivmod at hm
  split at hm
  · split at hm
    · rename_i i j hz
      cases hm
      obtain ⟨v, w, rfl, rv, rw'⟩ := reps2 r
      simp only [Rep] at rv rw'
      have hl : j.natAbs.log2 < 9000 := Nat.lt_of_le_of_lt (PySem.W.mg_log (k := 63) (by have := hz.2; have := hz.1; omega)) (by decide)
      exact ⟨i, j, by rw [rv, rw'], ⟨hz.1, PyProof.noPylong_of_log2 hl⟩, q.newT e hp (reps_cons (by simp only [Rep]) (reps_cons (by simp only [Rep]) reps_nil))⟩
    · cases hm
  · cases hm
end
end DL
end

section
set_option Elab.async false
set_option linter.all false
set_option maxRecDepth 100000
set_option maxHeartbeats 4000000
/-! DL: __init__. -/
namespace DL
open PySem PySem.Spec PyProof.Rows L2
open Evl (Ex)
/-- self.f = e, the next attribute -/
def mFldSet (i : Nat) (m : Env' → Mo D) : MS := fun env => bindM (m env) fun d => match env[i]? with
  | some (.mk c ds) => retM (.nx, env.set i (.mk c (ds ++ [d])))
  | _ => failM
theorem putF_new {f : Str} {v : V} : ∀ {fs : List (Str × V)}, f ∉ fs.map (·.1) → putF f v fs = fs ++ [(f, v)]
  | [], _ => rfl
  | (g, x) :: r, h => by
    rw [List.map_cons, List.mem_cons, not_or] at h
    unfold putF
    rw [if_neg (fun z => h.1 z.symm), putF_new h.2]
    rfl
section
variable {cs : CT} {X : Cx} {e a b : Expr} {es : List Expr} {m ma mb : Env' → Mo D} {pos : Pos} {C f : Addr} {fn : List Str} {c k : Nat} {fd : FuncData} {ps : List Str} {g : Bool} {fm : List D → Mo D}
/-- which attribute comes next: said by the length -/
def mFldAt (c i n : Nat) (m : Env' → Mo D) : MS := fun env => match env[i]? with
  | some (.mk c' ds) => if c' = c ∧ ds.length = n then mFldSet i m env else failM
  | _ => failM
theorem s_fld (i n : Nat) {x : Str} {fl : Str} {p1 apos : Pos} (T : ClsAt X.K cs c C fn) (hna : NoAttr X.K C fl) (h : PED cs X e m) (hfl : fn[n]? = some fl := by rfl) (hn1 : fn.length < 1000 := by decide)
    (hN : X.N[i]? = some x := by rfl) (hv : Vis X.env.scope x := by first | exact Or.inl rfl | exact Or.inr (Or.inl rfl) | exact Or.inr (Or.inr rfl)) (hd : (x == ("__debug__" : Str)) = false := by decide) (hcd : (x == ("__classdict__" : Str)) = false := by decide)
    (hs : swapsWith e (some (.Attribute (.Name x p1) fl apos)) pos.line X.env = pure false := by rfl) :
    PSD cs X (.Assign [.Attribute (.Name x p1) fl apos] e pos) (mFldAt c i n m) := by
  obtain ⟨te, h1, h2⟩ := h.ex
  refine ⟨_, ps_fld (pe_var hN hv hd hcd) h1 hs, fun ap H0 B0 B σ env H p E o env' p' k hm q => ?_⟩
  unfold mFldAt at hm
  rcases g : env[i]? with _ | _ | d' | _ | ⟨c', ds⟩
  · rw [g] at hm; cases hm
  · rw [g] at hm; cases hm
  · rw [g] at hm; cases hm
  · rw [g] at hm; cases hm
  · rw [g] at hm
    dsimp only at hm
    split at hm
    case isFalse => cases hm
    rename_i hc
    obtain ⟨hc, hl⟩ := hc
    subst hc
    obtain ⟨d, p1, e1, e2⟩ := bindM_some hm
    rw [g] at e2
    cases e2
    obtain ⟨a', C', fn', dx, fs, g1, g2, g3, g4, g5, g6, g7⟩ := k.sl i _ g
    rw [T.at_] at g2
    cases g2
    have nap : a' ≠ ap := fun z => k.hap (z ▸ k.prvNew i _ a' g rfl g1)
    refine h2 ap H0 B0 B σ env H p _ d p' k e1 fun B1 H1 v n1 hp1 r1 => ?_
    have k1 := k.nxt n1 hp1
    have h4 : H1 a' = some (.ins C dx fs) := n1.fr _ _ g4 nap
    have hnd : fl ∉ fs.map (·.1) := fun z => by
      rw [g5, hl] at z
      obtain ⟨j, hj, hz⟩ := List.mem_iff_getElem.mp z
      rw [List.getElem_take] at hz
      have hjn : j < n := by rw [List.length_take] at hj; omega
      have e3 := T.nd
      have e4 := (List.getElem?_eq_some_iff.mp hfl)
      obtain ⟨e5, e6⟩ := e4
      exact (List.pairwise_iff_getElem.mp e3) j n (by omega) e5 hjn (hz.trans e6.symm)
    refine ⟨.ref a', g1, a', C, dx, fs, rfl, h4, T.cl, hna, ?_, ?_⟩
    · rw [g6, hl]
      have := (List.getElem?_eq_some_iff.mp hfl).1
      omega
    · refine q B1 σ _ n1.bb (k1.mutp g rfl g1 (n1.nw _ (by rw [g4]; exact (fun z => nomatch z)) g3) rfl ?_ ?_)
      · rw [putF_new hnd]
        refine ⟨a', C, fn, dx, fs ++ [(fl, v)], rfl, T.at_, n1.nw _ (by rw [g4]; exact (fun z => nomatch z)) g3, upd_same, ?_, ?_, ?_⟩
        · rw [List.map_append, g5, List.length_append, hl]
          show fn.take n ++ [fl] = fn.take (n + 1)
          rw [List.take_add_one, hfl]; rfl
        · rw [List.length_append, List.length_append, g6]; rfl
        · rw [List.map_append]
          exact (g7.mono n1.bb).append (reps_cons r1 reps_nil)
      · exact fun _ _ _ => ⟨_, _, rfl⟩
/-- self.f, self being made -/
def mFldMk (c i n : Nat) : Env' → Mo D := fun env => match env[i]? with
  | some (.mk c' ds) => if c' = c then match ds[n]? with
      | some d => retM d
      | none => failM
    else failM
  | _ => failM
theorem p_fldMk (i n : Nat) {x fl : Str} {p1 : Pos} (T : ClsAt X.K cs c C fn) (hna : NoAttr X.K C fl) (hfl : fn[n]? = some fl := by rfl) (hN : X.N[i]? = some x := by rfl) (hv : Vis X.env.scope x := by first | exact Or.inl rfl | exact Or.inr (Or.inl rfl) | exact Or.inr (Or.inr rfl)) (hd : (x == ("__debug__" : Str)) = false := by decide)
    (hcd : (x == ("__classdict__" : Str)) = false := by decide) (hb : attributeBase (.Name x p1) fl X.env (eval (.Name x p1) X.env) = eval (.Name x p1) X.env := by rfl) : PED cs X (.Attribute (.Name x p1) fl pos) (mFldMk c i n) := by
  refine ⟨_, pe_fld (pe_var hN hv hd hcd) hb, fun ap H0 B0 B σ env H p Q d p' k hm q => ?_⟩
  unfold mFldMk at hm
  rcases g : env[i]? with _ | _ | d' | _ | ⟨c', ds⟩
  · rw [g] at hm; cases hm
  · rw [g] at hm; cases hm
  · rw [g] at hm; cases hm
  · rw [g] at hm; cases hm
  · rw [g] at hm
    dsimp only at hm
    split at hm
    case isFalse => cases hm
    rename_i hc
    subst hc
    rcases z : ds[n]? with _ | d2
    · rw [z] at hm; cases hm
    · rw [z] at hm
      cases hm
      obtain ⟨a', C', fn', dx, fs, g1, g2, g3, g4, g5, g6, g7⟩ := k.sl i _ g
      rw [T.at_] at g2
      cases g2
      obtain ⟨v, hv1, hv2⟩ := g7.get z
      refine ⟨.ref a', g1, a', C, dx, fs, v, rfl, g4, T.cl, hna, lookup_at (by rw [g5]; exact List.Nodup.sublist (List.take_sublist _ _) T.nd) (i := n) ?_ hv1, q B H v (Nxt.refl k.bh) k.pot hv2⟩
      rw [g5, List.getElem?_take, if_pos (List.getElem?_eq_some_iff.mp z).1]
      exact hfl
end
/-- the slots at an __init__'s entry -/
def envI (n c : Nat) (ds : List D) : Env' := .mk c [] :: (ds.map .val ++ List.replicate (n - (ds.length + 1)) .un)
/-- what an __init__ makes -/
def runI (n c nf : Nat) (m : MS) : List D → Mo D := fun ds => bindM (m (envI n c ds)) fun (r : Out × Env') => match r.1 with
  | .nx => match (r.2[0]? : Option SV) with
    | some (.mk c' fs) => if c' = c ∧ fs.length = nf then retM (.ins c fs) else failM
    | _ => failM
  | _ => failM
theorem ok_startI {K : PySem.W.Frag} {cs : CT} {ap : Addr} {B H : Hp} {N : List Str} {c : Nat} {C x dx : Addr} {fn : List Str} {ds : List D} {vs : List V} {p : Pt} (hc : cs c = some (C, fn)) (e : Ex B H) (hp : PotAt ap H p) (hb : B ap = none) (r : Reps K cs ap B ds vs) (hx : H x = none) (hdx : H dx = none) (hne : dx ≠ x) :
    Ok K cs ap (upd H ap (.own x)) B B (L2.start N (.ref x :: vs)) (envI N.length c ds) (upd (upd H dx (.own x)) x (.ins C dx [])) p := by
  have n1 : Nxt ap B H B (upd H dx (.own x)) := Nxt.newU e hdx
  have hx1 : (upd H dx (.own x)) x = none := by rw [upd_ne (fun z => hne z.symm)]; exact hx
  have n2' : Nxt ap B H B (upd (upd H dx (.own x)) x (.ins C dx [])) := n1.trans (Nxt.newU n1.bh hx1)
  have n2 : Nxt ap B (upd H ap (.own x)) B (upd (upd H dx (.own x)) x (.ins C dx [])) := by
    refine ⟨n2'.bb, n2'.bh, fun a _ h => h, fun a o h ha => ?_, fun a h => ?_⟩
    · rw [upd_ne ha] at h; exact n2'.fr a o h ha
    · by_cases z : a = ap
      · subst z; exact n2'.nn _ (by rw [show H a = _ from hp]; exact (fun z => nomatch z))
      · rw [upd_ne z] at h; exact n2'.nn a h
  have hl := r.length
  have prv : ∀ (i : Nat) sv, (envI N.length c ds)[i]? = some sv → sv.prv = true → i = 0 := fun i sv h g => by
    unfold envI at h
    cases i with
    | zero => rfl
    | succ i =>
      rw [List.getElem?_cons_succ, List.getElem?_append] at h
      split at h
      · rw [List.getElem?_map] at h
        cases z : ds[i]? with
        | none => rw [z] at h; cases h
        | some d => rw [z] at h; cases h; cases g
      · rw [List.getElem?_replicate] at h
        split at h
        · cases h; cases g
        · cases h
  have xap : x ≠ ap := fun z => by rw [z] at hx; rw [show H ap = _ from hp] at hx; cases hx
  refine ⟨n2, (hp.new hdx).new hx1, hb, by rw [upd_same]; exact (fun z => nomatch z), fun i sv h => ?_, fun i sv a h g h' => ?_, fun i j sv sv' a hn h h' g g' _ => ?_, by unfold L2.start envI; simp [hl], fun i c' es a h h' => ?_⟩
  · unfold envI at h
    unfold L2.start
    cases i with
    | zero =>
      cases h
      exact ⟨x, C, fn, dx, [], rfl, hc, Evl.fresh_back e hx, upd_same, rfl, rfl, reps_nil⟩
    | succ i =>
      rw [List.getElem?_cons_succ, List.getElem?_append] at h
      rw [List.map_cons, List.cons_append, List.getElem?_cons_succ]
      split at h
      · rename_i hi
        rw [List.getElem?_map] at h
        cases z : ds[i]? with
        | none => rw [z] at h; cases h
        | some d =>
          rw [z] at h
          cases h
          rw [List.length_map] at hi
          rw [List.getElem?_append_left (by rw [List.length_map]; omega)]
          exact reps_map r z
      · rw [List.getElem?_replicate] at h
        split at h
        · cases h; trivial
        · cases h
  · have := prv i sv h g
    subst this
    unfold L2.start at h'
    cases h'
    rw [upd_ne xap]
    exact hx
  · have h1 := prv i sv h g
    have h2 := prv j sv' h' g'
    omega
  · have := prv i _ h rfl
    subst this
    unfold L2.start at h'
    cases h'
    exact upd_same
/-- THE RULE of an __init__ -/
theorem fn_i {g : Bool} {cs : CT} {P : Program} {w : World} {K : PySem.W.Frag} {mg : Str → Option Value} {base : Heap} {k c : Nat} {C f : Addr} {fn : List Str} {name qual : Str} {params : Arguments} {body : List Stmt} {scope : Scope} {dvs : List V} {kws : List (Str × V)} {fd : FuncData} {N ps : List Str} {m : MS} {n : Nat}
    (T : ClsAt K cs c C fn) (F : FunD K name qual params body scope dvs kws f fd) (S : FnScope N ps scope) (hps : ps.length = n + 1)
    (hbody : ∀ (cdv : Value) (A : Around) (outer : List Env) (s : Shared) (H : Hp) (E : XK), Room k (A.deeper (envOfC qual scope s.heap.objs.size f cdv)) → (g = true → A.guards = some []) →
      PSsD cs (cx0 P w K mg base N qual scope f cdv A outer s H E) body m) : FnD g P w K mg base (k + 1) f fd ps (spMk K cs C n (runI N.length c fn.length m)) := by
  refine fn_enter F S (fun vs H Q E h => ?_) fun cdv A outer s H vs Q E hr hg h => ?_
  · obtain ⟨x, dx, H1, us, rfl, hl, _⟩ := h
    rw [List.length_cons, hl, hps]
  · obtain ⟨x, dx, H1, us, rfl, hl, rfl, hx, hdx, hne, ap, B, ds, p, d, p', e, hp, hb, r, hm, q⟩ := h
    obtain ⟨t, ht, hv⟩ := (hbody cdv A outer s _ E hr hg).ex
    refine ⟨t, ht, ?_⟩
    obtain ⟨⟨o, env'⟩, p1, e1, e2⟩ := bindM_some hm
    refine hv ap (upd H1 ap (.own x)) B B _ _ _ p _ o env' p1 (ok_startI T.at_ e hp hb r hx hdx hne) e1 ?_
    cases o with
    | nx =>
      dsimp only at e2
      rcases g : env'[0]? with _ | _ | d' | _ | ⟨c', fs⟩
      · rw [g] at e2; cases e2
      · rw [g] at e2; cases e2
      · rw [g] at e2; cases e2
      · rw [g] at e2; cases e2
      · rw [g] at e2
        dsimp only at e2
        split at e2
        case isFalse => cases e2
        rename_i hc
        obtain ⟨hc, hlen⟩ := hc
        subst hc
        cases e2
        intro B' σ' H' ex k'
        obtain ⟨a, C', fn', dx', fs', g1, g2, g3, g4, g5, g6, g7⟩ := k'.sl 0 _ g
        have hself := k'.mkAt 0 _ _ a g g1
        rw [upd_same] at hself
        cases hself
        rw [T.at_] at g2
        cases g2
        have nxap : x ≠ ap := fun z => by rw [z] at hx; rw [show H1 ap = _ from hp] at hx; cases hx
        have e1 : Ex B' (upd B' x (.ins C dx' fs')) := Ex.new g3
        have nst := k'.st
        refine q (upd B' x (.ins C dx' fs')) H' ⟨nst.bb.trans e1, fun b u hb => ?_, fun b hb hb' => ?_, fun b u hb hn => ?_, fun b hb => ?_⟩ k'.pot ?_
        · by_cases z : b = x
          · subst z; rw [upd_same] at hb; rw [g4]; exact hb
          · rw [upd_ne z] at hb; exact k'.bh _ _ hb
        · have z : b ≠ x := fun z => hb (z ▸ hx)
          rw [upd_ne z]
          by_cases y : b = ap
          · subst y; exact k'.bap
          · exact nst.nw b (by rw [upd_ne y]; exact hb) hb'
        · exact nst.fr b u (by rw [upd_ne hn]; exact hb) hn
        · by_cases y : b = ap
          · subst y; rw [show H' b = _ from k'.pot]; exact (fun z => nomatch z)
          · exact nst.nn b (by rw [upd_ne y]; exact hb)
        · simp only [Rep]
          refine ⟨x, C, fn, dx', fs', rfl, T.at_, upd_same, ?_, g7.mono e1⟩
          rw [g5, hlen, List.take_length]
    | rt d' => cases e2
    | ro ds' => cases e2
    | bk => cases e2
    | ct => cases e2
end DL
end

section
set_option Elab.async false
set_option linter.all false
set_option maxRecDepth 100000
set_option maxHeartbeats 4000000
/-! DL: the facts of the module, read at the head. -/
namespace DL
open PySem PySem.Spec PyProof.Rows L2
abbrev Fr' := PySem.W.Frag
/-- a def by a path of one's own -/
structure DefZ where
  adr : Fr' → Addr
  name : Str
  qual : Str
  params : Arguments
  body : List Stmt
  scope : Scope
  dfl : List He.Dv := []
def fnZ (K : Fr') (a : Addr) : He.FnW := match K.lookup a with
  | some ⟨_, _, .func fd, _⟩ => some (fd.name, fd.qualname, fd.params, fd.body, fd.scope, fd.globals, fd.closure, fd.builtins)
  | _ => none
def DefZ.val (d : DefZ) : He.FnW := some (d.name, d.qual, d.params, .stmts d.body, d.scope, mainGlobals, [], builtinsNs)
def DefZ.dvs (K : Fr') (d : DefZ) : List V := d.dfl.map (He.Dv.v K)
def DefZ.ok (K : Fr') (d : DefZ) : Bool := PySem.W.keepIn K (.ref (d.adr K)) && (match K.lookup (d.adr K) with
  | some ⟨_, _, .func fd, _⟩ => PySem.W.codeIn K fd.code d.qual && (He.dflB K fd.defaults (d.dvs K) && He.kwdB K fd.kwdefaults [])
  | _ => false)
theorem DefZ.funD {K : Fr'} {d : DefZ} (e : fnZ K (d.adr K) = d.val) (c : d.ok K = true) : ∃ fd, FunD K d.name d.qual d.params d.body d.scope (d.dvs K) [] (d.adr K) fd := by
  obtain ⟨kp, c2⟩ := He.ba c
  unfold fnZ at e
  cases q : K.lookup (d.adr K) with
  | none =>
    rw [q] at c2
    cases c2
  | some o =>
    obtain ⟨oc, od, dt, osl⟩ := o
    rw [q] at c2 e
    cases dt with
    | func fd =>
      obtain ⟨n1, n2, n3, n4, n5, n6, n7, n8, n9, n10, n11, n12, n13, n14, n15⟩ := fd
      have e2 : (some (n1, n2, n3, n4, n5, n6, n7, n15) : He.FnW) = some (d.name, d.qual, d.params, .stmts d.body, d.scope, mainGlobals, [], builtinsNs) := e
      simp only [Option.some.injEq, Prod.mk.injEq] at e2
      obtain ⟨h1, h2, h3, h4, h5, h6, h7, h8⟩ := e2
      subst h1 h2 h3 h4 h5 h6 h7 h8
      have c3 : (PySem.W.codeIn K n13 d.qual && (He.dflB K n8 (d.dvs K) && He.kwdB K n9 [])) = true := c2
      obtain ⟨k1, k2⟩ := He.ba c3
      obtain ⟨k3, k4⟩ := He.ba k2
      exact ⟨_, ⟨oc, od, n8, n9, n10, n11, n12, n13, n14, osl, rfl, q, k1, He.dflB_ok k3, He.kwdB_ok k4⟩, kp⟩
    | _ => cases c2
def obsZ (ex : List (Fr' → Bool)) (fn : List DefZ) (K : Fr') : He.AlD := ((ex.all fun f => f K) && fn.all fun d => d.ok K, fn.map fun d => fnZ K (d.adr K))
def valZ (fn : List DefZ) : He.AlD := (true, fn.map DefZ.val)
def SaysZ (ex : List (Fr' → Bool)) (fn : List DefZ) (K : Fr') : Prop := obsZ ex fn K = valZ fn
def obsZG (n : Nat) (ex : List (Fr' → Bool)) (fn : List DefZ) (g : Addr → Option Obj) : He.AlD := obsZ ex fn (He.frG g (He.asD g n))
def hookZ (n : Nat) (ex : List (Fr' → Bool)) (fn : List DefZ) : PySem.W.Hook where
  α := He.AlD
  obs := fun s => obsZG n ex fn s.heap.get?
  val := fun _ => valZ fn
  says := fun _ h => ∃ K : Fr', K.In h ∧ SaysZ ex fn K
  of := fun _ _ e => ⟨_, He.frG_in, e⟩
  keeps := fun _ _ _ ⟨K, hK, c⟩ k => ⟨K, PySem.W.Frag.In.keeps hK k, c⟩
theorem obsZG_eq {n : Nat} {ex : List (Fr' → Bool)} {fn : List DefZ} {g : Addr → Option Obj} {s : Shared} (h : ∀ a, g a = s.heap.get? a) : obsZG n ex fn g = (hookZ n ex fn).obs s := by
  have e : g = s.heap.get? := funext h
  rw [e] <;> rfl
section
variable {ex : List (Fr' → Bool)} {fn : List DefZ} {K : Fr'}
theorem SaysZ.fact (c : SaysZ ex fn K) (i : Nat) {f : Fr' → Bool} (h : ex[i]? = some f := by rfl) : f K = true := by
  have c1 := (He.ba (show ((ex.all fun f => f K) && fn.all fun d => d.ok K) = true from congrArg (fun z : He.AlD => z.1) c)).1
  exact List.all_eq_true.mp c1 f (List.mem_of_getElem? h)
theorem SaysZ.def_ (c : SaysZ ex fn K) (i : Nat) {d : DefZ} (h : fn[i]? = some d := by rfl) : ∃ fd, FunD K d.name d.qual d.params d.body d.scope (d.dvs K) [] (d.adr K) fd := by
  have c2 := (He.ba (show ((ex.all fun f => f K) && fn.all fun d => d.ok K) = true from congrArg (fun z : He.AlD => z.1) c)).2
  have e : fn.map (fun d => fnZ K (d.adr K)) = fn.map DefZ.val := congrArg (fun z : He.AlD => z.2) c
  have e2 : (fn.map fun d => fnZ K (d.adr K))[i]? = (fn.map DefZ.val)[i]? := by rw [e]
  rw [List.getElem?_map, List.getElem?_map, h] at e2
  exact DefZ.funD (Option.some.inj e2) (List.all_eq_true.mp c2 d (List.mem_of_getElem? h))
end
/-! ### tests of the module -/
def tGlo (x : Str) : Fr' → Bool := fun K => (He.Fa.glo x).ok K
def tFree (x : Str) : Fr' → Bool := fun K => (He.Fa.free x).ok K
def tInt (x : Str) (i : Int) : Fr' → Bool := fun K => (He.Fa.int x i).ok K
def tStr (x z : Str) : Fr' → Bool := fun K => (He.Fa.str x z).ok K
def tCls (x : Str) : Fr' → Bool := fun K => (He.Fa.cls x).ok K
def tNoat (x f : Str) : Fr' → Bool := fun K => (He.Fa.noat x f).ok K
def tMeth (x m : Str) : Fr' → Bool := fun K => (He.Fa.meth x m).ok K
def tMkr (x : Str) : Fr' → Bool := fun K => (He.Fa.mkr x).ok K
def tBi (x : Str) (id : String) : Fr' → Bool := fun K => He.eqO (PySem.W.nsIn K mainGlobals x) (some (some (.builtin id)))
theorem tBi_ok {K : Fr'} {h : Heap} {mg : Str → Option Value} {x : Str} {id : String} (X : K.In h) (G : h.Ns mainGlobals mg) (c : tBi x id K = true) : mg x = some (.builtin id) := PySem.W.mg_of X G (He.eqO_ok c)
def csL (l : List (Addr × List Str)) : CT := fun c => l[c]?
def ob (a : Option Bool) (b : Bool) : Bool := decide (a = some b)
def tyfB (K : Fr') (C : Addr) : Bool := He.eqO (PySem.W.findIn K (.ref C) "__class__") (some (some (.builtin "object.__class__"))) && (He.eqO (PySem.W.specialIn K (.builtin "object.__class__") "__get__") (some (some (.builtin "getset_descriptor.__get__"))) &&
  (ob (PySem.W.takesIn K (.builtin "object.__class__")) true && ob (PySem.W.mroIn K C (.type "object")) true))
def isi1 (K : Fr') (C : Addr) : Bool := tyfB K C && ((["int", "bool", "list", "tuple", "str"].all fun n => ob (PySem.W.kitOne K (.ref C) (.type n)) false) && (tyNames.all fun n => ob (PySem.W.kitOne K (.type n) (.ref C)) false))
def isiB (K : Fr') (l : List (Addr × List Str)) : Bool := (l.all fun p => isi1 K p.1) && ((List.range l.length).all fun i => (List.range l.length).all fun j => match l[i]?, l[j]? with
  | some p, some q => ob (PySem.W.kitOne K (.ref p.1) (.ref q.1)) (i == j)
  | _, _ => true)
theorem isiB_ok {K : Fr'} {l : List (Addr × List Str)} (hc : ∀ p ∈ l, Cls K p.1) (h : isiB K l = true) : IsiF K (csL l) := by
  obtain ⟨h1, h2⟩ := He.ba h
  have one : ∀ c C fn, csL l c = some (C, fn) → isi1 K C = true ∧ Cls K C := fun c C fn e => ⟨List.all_eq_true.mp h1 (C, fn) (List.mem_of_getElem? e), hc (C, fn) (List.mem_of_getElem? e)⟩
  refine ⟨fun c C fn e => ?_, fun c C fn e n hn => ?_, fun c C fn e n hn => ?_, fun c C fn c' C' fn' e e' => ?_⟩
  · obtain ⟨a, cl⟩ := one c C fn e
    obtain ⟨a1, a2⟩ := He.ba a
    obtain ⟨b1, b2⟩ := He.ba a1
    obtain ⟨b3, b4⟩ := He.ba b2
    obtain ⟨b5, b6⟩ := He.ba b4
    exact ⟨cl, He.eqO_ok b1, He.eqO_ok b3, of_decide_eq_true b5, of_decide_eq_true b6⟩
  · obtain ⟨a, cl⟩ := one c C fn e
    obtain ⟨a1, a2⟩ := He.ba a
    exact of_decide_eq_true (List.all_eq_true.mp (He.ba a2).1 n hn)
  · obtain ⟨a, cl⟩ := one c C fn e
    obtain ⟨a1, a2⟩ := He.ba a
    exact of_decide_eq_true (List.all_eq_true.mp (He.ba a2).2 n hn)
  · have hi : c < l.length := (List.getElem?_eq_some_iff.mp e).1
    have hj : c' < l.length := (List.getElem?_eq_some_iff.mp e').1
    have h3 := List.all_eq_true.mp (List.all_eq_true.mp h2 c (List.mem_range.mpr hi)) c' (List.mem_range.mpr hj)
    have g1 : l[c]? = some (C, fn) := e
    have g2 : l[c']? = some (C', fn') := e'
    rw [g1, g2] at h3
    exact of_decide_eq_true h3
def opfB (K : Fr') (C f : Addr) (op : Operator) : Bool := PySem.W.selfFirst K C && (He.eqO (PySem.W.findIn K (.ref C) (PySem.dunder op.info.2)) (some (some (.ref f))) && (PySem.W.isFn K (.ref f) &&
  ((match PySem.W.findIn K (.ref C) (dunderR op.info.2) with
    | some none => true
    | some (some (.ref _)) => true
    | _ => false) && ((PySem.W.findIn K (.type "int") (PySem.dunder op.info.2)).isSome && ((PySem.W.findIn K (.type "int") (dunderR op.info.2)).isSome && ob (PySem.W.subIn K (.type "int") (.ref C)) false)))))
theorem opfB_ok {K : Fr'} {C f : Addr} {op : Operator} (h : opfB K C f op = true) : OpF K C f op := by
  obtain ⟨h1, h⟩ := He.ba h
  obtain ⟨h2, h⟩ := He.ba h
  obtain ⟨h3, h⟩ := He.ba h
  obtain ⟨h4, h⟩ := He.ba h
  obtain ⟨h5, h⟩ := He.ba h
  obtain ⟨h6, h7⟩ := He.ba h
  refine ⟨h1, He.eqO_ok h2, h3, ?_, Option.isSome_iff_exists.mp h5, Option.isSome_iff_exists.mp h6, of_decide_eq_true h7⟩
  rcases z : PySem.W.findIn K (.ref C) (dunderR op.info.2) with _ | _ | v
  · rw [z] at h4; cases h4
  · exact ⟨none, rfl, .inl rfl⟩
  · rw [z] at h4
    cases v <;> first | (cases h4; done) | exact ⟨_, rfl, .inr ⟨_, rfl⟩⟩
/-- a property's getter -/
def proA (K : Fr') (C : Addr) (x : Str) : Addr := match PySem.W.findIn K (.ref C) x with
  | some (some (.ref a)) => a
  | _ => 0
/-- the classes at unlike places -/
def injB (l : List (Addr × List Str)) : Bool := decide (l.map (·.1)).Nodup
theorem injB_ok {l : List (Addr × List Str)} (h : injB l = true) : ∀ c c' C fn fn', csL l c = some (C, fn) → csL l c' = some (C, fn') → c = c' := by
  intro c c' C fn fn' e e'
  have nd : (l.map (·.1)).Nodup := of_decide_eq_true h
  have g1 : l[c]? = some (C, fn) := e
  have g2 : l[c']? = some (C, fn') := e'
  obtain ⟨i1, i2⟩ := List.getElem?_eq_some_iff.mp g1
  obtain ⟨j1, j2⟩ := List.getElem?_eq_some_iff.mp g2
  have pw := List.pairwise_iff_getElem.mp nd
  rcases Nat.lt_trichotomy c c' with z | z | z
  · exact absurd (show (l.map (·.1))[c]'(by rw [List.length_map]; exact i1) = (l.map (·.1))[c']'(by rw [List.length_map]; exact j1) by rw [List.getElem_map, List.getElem_map, i2, j2]) (pw c c' _ _ z)
  · exact z
  · exact absurd (show (l.map (·.1))[c']'(by rw [List.length_map]; exact j1) = (l.map (·.1))[c]'(by rw [List.length_map]; exact i1) by rw [List.getElem_map, List.getElem_map, i2, j2]) (pw c' c _ _ z)
/-- what is known of a def that may be called -/
structure Has (g : Bool) (P : Program) (w : World) (K : Fr') (mg : Str → Option Value) (base : Heap) (k : Nat) (f : Addr) (ps : List Str) (sp : Sp) : Prop where
  ex : ∃ fd, FnD g P w K mg base k f fd ps sp ∧ PySem.W.keepIn K (.ref f) = true ∧ Binds K fd ps []
/-- .. by names too -/
theorem FunD.kwB {K : Fr'} {x qual : Str} {params : Arguments} {body : List Stmt} {scope : Scope} {kws : List (Str × V)} {f : Addr} {fd : FuncData} (F : FunD K x qual params body scope [] kws f fd) (ps ks : List Str) (ix : List Nat)
    (h : ∀ (kV doc pm : Value) (an : Option Addr) (cdv ct : Value) (ws : List Value), ws.length = ks.length → bindArgs (PySem.W.fnOf x qual params body scope .none kV doc pm an cdv ct) ⟨[], ks.zip ws⟩ = pure (ps.zip (pick ix ws))) : KwB fd ps ks ix := by
  obtain ⟨oc, od, dV, kV, doc, pm, an, cdv, ct, osl, rfl, lk, hcd, hD, hK⟩ := F.ex
  rcases hD with ⟨_, rfl⟩ | ⟨e, _⟩
  · intro s ws hl
    exact .of_eq (h kV doc pm an cdv ct ws hl)
  · exact absurd rfl e
end DL
end

section
set_option Elab.async false
set_option linter.all false
set_option maxRecDepth 100000
set_option maxHeartbeats 4000000
/-! DL: what the printed walks lean on. -/
namespace DL
open PySem PySem.Spec PyProof.Rows L2
open Evl (Ex)
/-- an own list is a datum from here on; a datum stays one -/
def mFrz (i : Nat) (m : MS) : MS := fun env => match env[i]? with
  | some (.own ds) => m (env.set i (.val (.lst ds)))
  | _ => m env
section
variable {cs : CT} {X : Cx} {e a b : Expr} {es : List Expr} {sts : List Stmt} {m ma mb : Env' → Mo D} {ms : MS} {pos : Pos}
theorem ss_frz (i : Nat) (h : PSsD cs X sts ms) : PSsD cs X sts (mFrz i ms) := by
  obtain ⟨t, a1, a2⟩ := h.ex
  refine ⟨_, a1, fun ap H0 B0 B σ env H p E o env' p' k hm q => ?_⟩
  unfold mFrz at hm
  rcases g : env[i]? with _ | _ | _ | ds | _
  · rw [g] at hm; exact a2 ap H0 B0 B σ _ H p E o env' p' k hm q
  · rw [g] at hm; exact a2 ap H0 B0 B σ _ H p E o env' p' k hm q
  · rw [g] at hm; exact a2 ap H0 B0 B σ _ H p E o env' p' k hm q
  · rw [g] at hm
    obtain ⟨B', ex, k'⟩ := k.freeze g
    exact a2 ap H0 B0 B' σ _ H p E o env' p' k' hm (q.mono ex)
  · rw [g] at hm; exact a2 ap H0 B0 B σ _ H p E o env' p' k hm q
/-! ### a list or a tuple walked -/
theorem pi_or {tg iter : Expr} {w1 w2 : TI} (h1 : PI X tg iter w1) (h2 : PI X tg iter w2) : PI X tg iter (fun σ H R => w1 σ H R ∨ w2 σ H R) :=
  ⟨by
    first
      | exact fun pins s σ H R Q I h => h.elim (h1.run pins s σ H R Q I) (h2.run pins s σ H R Q I)
      | (intros; rename_i h; rcases h with h | h <;> first | (apply h1.run <;> assumption) | (apply h2.run <;> assumption))⟩
def srcS (a : Env' → Mo D) : Env' → Mo (List D) := fun env => bindM (a env) fun x => match x with
  | .lst ds => retM ds
  | .tup ds => retM ds
  | _ => failM
theorem i_seq {tg : Expr} (h : PED cs X e ma) : PID cs X tg e (srcS ma) := by
  obtain ⟨w1, a1, a2⟩ := (i_list (tg := tg) h).ex
  obtain ⟨w2, b1, b2⟩ := (i_tup (tg := tg) h).ex
  refine ⟨_, pi_or a1 b1, fun ap H0 B0 B σ env H p R ds p' k hm q => ?_⟩
  obtain ⟨x, p1, e1, e2⟩ := bindM_some hm
  cases x <;> first | (cases e2; done) | skip
  · exact .inl (a2 ap H0 B0 B σ env H p R ds p' k (show bindM (ma env) _ p = _ by unfold bindM; rw [e1]; exact e2) q)
  · exact .inr (b2 ap H0 B0 B σ env H p R ds p' k (show bindM (ma env) _ p = _ by unfold bindM; rw [e1]; exact e2) q)
theorem op_eqF (ne : Bool) : OpD cs X (compareOp (DQ.opC ne)) (dEqF ne) := by
  have key : OpR X (compareOp (DQ.opC ne)) (fun v w H Q => scal v w = true ∧ Q (.bl (decide (v = w) != ne)) H) := by
    intro pins s σ H v w v' w' Q I rv rw' h
    cases ne with
    | false => exact op_eq pins s σ H v w v' w' Q I rv rw' ⟨h.1, by have q := h.2; rw [show (decide (v = w) != false) = decide (v = w) by cases decide (v = w) <;> rfl] at q; exact q⟩
    | true => exact op_ne pins s σ H v w v' w' Q I rv rw' ⟨h.1, by have q := h.2; rw [show (decide (v = w) != true) = !decide (v = w) by cases decide (v = w) <;> rfl] at q; exact q⟩
  refine ⟨_, key, fun ap B H p x y v u Q d p' e hp hb rx ry hm q => ?_⟩
  unfold dEqF at hm
  rcases hv : flV x with _ | v1
  · rw [hv] at hm; cases hm
  · rcases hw : flV y with _ | w1
    · rw [hv, hw] at hm; cases hm
    · rw [hv, hw] at hm
      dsimp only at hm
      split at hm
      · rename_i hs
        cases hm
        obtain ⟨rfl, _⟩ := rep_flat hv rx
        obtain ⟨rfl, _⟩ := rep_flat hw ry
        exact ⟨hs, q B H _ (Nxt.refl e) hp (by simp only [Rep])⟩
      · cases hm
end
end DL
end

section
set_option Elab.async false
set_option linter.all false
set_option maxRecDepth 100000
set_option maxHeartbeats 4000000
/-! DL: more of the library: an empty dict, chains, in, sorted, list(range), tuple(range). -/
namespace SrtO
open PySem PySem.Spec PyProof.Rows
/-- sorted(a tuple) -/
theorem sorted_tupO {prog : Program} {w : World} {A : Around} {E : Value → Shared → Prop} {s : Shared} {l : Addr} {o : Obj} {vs : List Value} {n : Nat} {lt : Value → Value → Bool} {Q : Value → Shared → Prop} (O : Swo lt) (ho : s.heap.get? l = some o) (hc : o.cls = .type "tuple") (hd : o.data = .seq vs.toArray n)
    (hz : vs.length ≤ sizeLine) (hS : 2 ≤ vs.length → ∀ (h₁ : Heap) (a : Addr), h₁.get? a = some (seqObj "list" vs.toArray 0) → SortableO prog w A.in1.in1 { s with heap := h₁ } a vs lt)
    (h : ∀ (out : List Value) (h' : Heap), Srtd lt out → Stb lt out vs → (∀ b u, s.heap.get? b = some u → h'.get? b = some u) → Q (.ref h'.objs.size) { s with heap := sortedHeap (h'.push (seqObj "list" vs.toArray 0)) h'.objs.size vs out.toArray }) :
    wpAny (model prog w) A (call (.builtin "sorted") [.ref l]) Q E s := by
  refine Calls.call_function_entry (id := "sorted") kind_sorted plain_sorted entry_sorted (args_sorted1 (.ref l)) ?_
  unfold Builtin.«sorted»; refine wpAny_bind (m := checkCount "sorted" 1 1 _) (wpAny_pure (wpAny_bind (wpAny_collect_seq l (.inr rfl) ho hc hd (fun h' hk => ?_) (by rw [List.size_toArray]; exact hz))))
  refine wpAny_bind (wpAny_newList ?_ (by simpa using hz))
  have hoL : (h'.push (seqObj "list" vs.toArray 0)).get? h'.objs.size = some (seqObj "list" vs.toArray 0) := Heap.get?_push_size _ rfl
  show wpAny _ _ _ _ _ { s with heap := h'.push (seqObj "list" vs.toArray 0) }
  refine wpAny_bind (wpAny_holding (wpAny_call_entry slot_list_sort ⟨_, hoL, rfl⟩ entry_list_sort (list_sort_ord O hoL hz (fun h2 => hS h2 _ _ hoL) fun out hs hb => ⟨_, rfl, wpAny_pure ⟨_, rfl, h out h' hs hb hk⟩⟩) (args_list_sort _)))
end SrtO
namespace DL
open PySem PySem.Spec PyProof.Rows L2
open Evl (Ex)
section
variable {cs : CT} {X : Cx} {e a b c : Expr} {es : List Expr} {m ma mb mc : Env' → Mo D} {pos : Pos}
theorem p_ed : PED cs X (.Dict [] [] pos) (mC .ed) := by
  refine ⟨_, pe_dnewK, fun ap H0 B0 B σ env H p Q d p' k hm q => ?_⟩
  cases hm
  intro t ht
  exact q _ _ _ (Nxt.new k.bh ht) (k.pot.new ht) (by simp only [Rep]; exact ⟨t, rfl, upd_same⟩)
/-! ### a < b < c -/
def mChain (f g : D → D → Mo D) (ma mb mc : Env' → Mo D) : Env' → Mo D := fun env => bindM (ma env) fun x => bindM (mb env) fun y => bindM (f x y) fun z => match z with
  | .bl true => bindM (mc env) fun w => g y w
  | .bl false => retM (.bl false)
  | _ => failM
theorem chain_ev {K : PySem.W.Frag} {r r' : R2} {f g : D → D → Mo D} {ta tb tc : TE} (ha : EvE K cs ta ma) (hb : EvE K cs tb mb) (hc : EvE K cs tc mc)
    (hr : ∀ ap B H p x y v u (Q : VK) d p', Ex B H → PotAt ap H p → B ap = none → Rep K cs ap B x v → Rep K cs ap B y u → f x y p = some (d, p') → KE K cs ap B H p' d Q → r v u H Q)
    (hr' : ∀ ap B H p x y v u (Q : VK) d p', Ex B H → PotAt ap H p → B ap = none → Rep K cs ap B x v → Rep K cs ap B y u → g x y p = some (d, p') → KE K cs ap B H p' d Q → r' v u H Q) : EvE K cs (tChain r r' ta tb tc) (mChain f g ma mb mc) := by
  intro ap H0 B0 B σ env H p Q d p' k hm q
  obtain ⟨x, p1, e1, e2⟩ := bindM_some hm
  obtain ⟨y, p2, e3, e4⟩ := bindM_some e2
  obtain ⟨z, p3, e5, e6⟩ := bindM_some e4
  refine ha ap H0 B0 B σ env H p _ x p1 k e1 fun B1 H1 v n1 hp1 r1 => ?_
  have k1 := k.nxt n1 hp1
  refine hb ap H0 B0 B1 σ env H1 p1 _ y p2 k1 e3 fun B2 H2 u n2 hp2 r2 => ?_
  have k2 := k1.nxt n2 hp2
  refine hr ap B2 H2 p2 x y v u _ z p3 k2.bh hp2 k2.bap (r1.mono n2.bb) r2 e5 fun B3 H3 w n3 hp3 r3 => ?_
  have k3 := k2.nxt n3 hp3
  split at e6
  · simp only [Rep] at r3
    refine ⟨true, r3, ?_⟩
    rw [if_pos rfl]
    obtain ⟨t, p4, e7, e8⟩ := bindM_some e6
    refine hc ap H0 B0 B3 σ env H3 p3 _ t p4 k3 e7 fun B4 H4 w' n4 hp4 r4 => ?_
    have k4 := k3.nxt n4 hp4
    exact hr' ap B4 H4 p4 y t u w' Q d p' k4.bh hp4 k4.bap ((r2.mono n3.bb).mono n4.bb) r4 e8 fun B5 H5 v5 n5 hp5 r5 => q B5 H5 v5 (n1.trans (n2.trans (n3.trans (n4.trans n5)))) hp5 r5
  · simp only [Rep] at r3
    cases e6
    refine ⟨false, r3, ?_⟩
    rw [if_neg (by decide)]
    exact q B3 H3 _ (n1.trans (n2.trans n3)) hp3 (by simp only [Rep])
  · cases e6
theorem p_chain {op op' : CmpOp} {f g : D → D → Mo D} (ho : OpD cs X (compareOp op) f) (ho' : OpD cs X (compareOp op') g) (ha : PED cs X a ma) (hb : PED cs X b mb) (hc : PED cs X c mc) (hm : lastMarks [op, op'] [b, c] = false := by with_unfolding_all rfl) : PED cs X (.Compare a [op, op'] [b, c] pos) (mChain f g ma mb mc) := by
  obtain ⟨ta, a1, a2⟩ := ha.ex
  obtain ⟨tb, b1, b2⟩ := hb.ex
  obtain ⟨tc, c1, c2⟩ := hc.ex
  obtain ⟨r, h1, h2⟩ := ho
  obtain ⟨r', h1', h2'⟩ := ho'
  exact ⟨_, pe_chain h1 h1' a1 b1 c1 hm, chain_ev a2 b2 c2 h2 h2'⟩
theorem pt_chainD {op op' : CmpOp} {f g : D → D → Mo D} (ho : OpD cs X (compareOp op) f) (ho' : OpD cs X (compareOp op') g) (ha : PED cs X a ma) (hb : PED cs X b mb) (hc : PED cs X c mc) (hm : lastMarks [op, op'] [b, c] = false := by with_unfolding_all rfl) : PTD cs X (.Compare a [op, op'] [b, c] pos) (mB (mChain f g ma mb mc)) := by
  obtain ⟨ta, a1, a2⟩ := ha.ex
  obtain ⟨tb, b1, b2⟩ := hb.ex
  obtain ⟨tc, c1, c2⟩ := hc.ex
  obtain ⟨r, h1, h2⟩ := ho
  obtain ⟨r', h1', h2'⟩ := ho'
  exact ⟨_, pt_chain h1 h1' a1 b1 c1 hm, evT_of (chain_ev a2 b2 c2 h2 h2')⟩
/-! ### in -/
def flVs : List D → Option (List V)
  | [] => some []
  | d :: ds => match flV d with
    | some v => match flVs ds with
      | some vs => some (v :: vs)
      | none => none
    | none => none
theorem reps_flat {ap : Addr} {B : Hp} : ∀ {ds : List D} {vs ws : List V}, flVs ds = some ws → Reps X.K cs ap B ds vs → vs = ws ∧ vs.all flatV = true
  | [], vs, ws, h, r => by
    cases h
    simp only [Reps] at r
    subst r
    exact ⟨rfl, rfl⟩
  | d :: ds, vs, ws, h, r => by
    simp only [Reps] at r
    obtain ⟨x, t, rfl, r1, r2⟩ := r
    unfold flVs at h
    rcases z : flV d with _ | v
    · rw [z] at h; cases h
    · rw [z] at h
      dsimp only at h
      rcases y : flVs ds with _ | us
      · rw [y] at h; cases h
      · rw [y] at h
        cases h
        obtain ⟨rfl, h2⟩ := reps_flat y r2
        obtain ⟨rfl, h3⟩ := rep_flat z r1
        exact ⟨rfl, by rw [List.all_cons, h3, h2]; rfl⟩
def opI (neg : Bool) : CmpOp := if neg then .NotIn else .In
def dInF (neg : Bool) : D → D → Mo D := fun x y => match flV x with
  | some v => match y with
    | .lst ds => match flVs ds with
      | some ws => retM (.bl (if neg then !inV v ws else inV v ws))
      | none => failM
    | .tup ds => match flVs ds with
      | some ws => retM (.bl (if neg then !inV v ws else inV v ws))
      | none => failM
    | _ => failM
  | none => failM
theorem op_inF (neg : Bool) : OpD cs X (compareOp (opI neg)) (dInF neg) := by
  have key : OpR X (compareOp (opI neg)) (rIn X.K neg) := by
    cases neg with
    | false => exact op_in_seq
    | true => exact op_notIn_seq
  refine ⟨_, key, fun ap B H p x y v u Q d p' e hp hb rx ry hm q => ?_⟩
  unfold dInF at hm
  rcases hv : flV x with _ | w
  · rw [hv] at hm; cases hm
  · rw [hv] at hm
    dsimp only at hm
    obtain ⟨rfl, hf⟩ := rep_flat hv rx
    split at hm
    · rename_i ds
      rcases z : flVs ds with _ | ws
      · rw [z] at hm; cases hm
      · rw [z] at hm
        cases hm
        simp only [Rep] at ry
        obtain ⟨t, xs, rfl, h1, h2⟩ := ry
        obtain ⟨rfl, h3⟩ := reps_flat z h2
        exact ⟨t, xs, rfl, .inl (SqL.of (e _ _ h1)), hf, h3, q B H _ (Nxt.refl e) hp (by simp only [Rep])⟩
    · rename_i ds
      rcases z : flVs ds with _ | ws
      · rw [z] at hm; cases hm
      · rw [z] at hm
        cases hm
        simp only [Rep] at ry
        obtain ⟨t, xs, rfl, h1, h2⟩ := ry
        obtain ⟨rfl, h3⟩ := reps_flat z h2
        exact ⟨t, xs, rfl, .inr (Evl.ex_t e h1), hf, h3, q B H _ (Nxt.refl e) hp (by simp only [Rep])⟩
    · cases hm
/-! ### sorted -/
def intsD : List D → Option (List Int)
  | [] => some []
  | .int i :: ds => match intsD ds with
    | some ns => some (i :: ns)
    | none => none
  | _ => none
theorem repsI {ap : Addr} {B : Hp} : ∀ {ds : List D} {vs : List V} {ns : List Int}, intsD ds = some ns → Reps X.K cs ap B ds vs → vs = ns.map V.int
  | [], vs, ns, h, r => by
    cases h
    simp only [Reps] at r
    exact r
  | d :: ds, vs, ns, h, r => by
    simp only [Reps] at r
    obtain ⟨x, t, rfl, r1, r2⟩ := r
    cases d <;> first | (cases h; done) | skip
    rename_i i
    unfold intsD at h
    rcases y : intsD ds with _ | us
    · rw [y] at h; cases h
    · rw [y] at h
      cases h
      simp only [Rep] at r1
      rw [r1, repsI y r2]
      rfl
theorem ints_reps {ap : Addr} {B : Hp} : ∀ ns : List Int, Reps X.K cs ap B (ns.map D.int) (ns.map V.int)
  | [] => reps_nil
  | n :: ns => reps_cons (by simp only [Rep]) (ints_reps ns)
def rSortedIT (K : PySem.W.Frag) : List V → Hp → VK → Prop := fun vs H Q => ∃ (t : Addr) (ns : List Int), vs = [V.ref t] ∧ SqT K H t (ns.map V.int) ∧
  ∀ (ns' : List Int) (p : Addr), ns'.Perm ns → ns'.Pairwise (· ≤ ·) → H p = none → Q (.ref p) (upd H p (.lst (ns'.map V.int)))
theorem cr_sortedIT : CallR X (.builtin "sorted") (rSortedIT X.K) := by
  intro pins s σ H vs us Q I r h
  obtain ⟨t, ns, rfl, hs, q⟩ := h
  obtain ⟨its, rv, ⟨o, ho, hc, n, hd⟩, hz⟩ := I.tuple hs
  rw [Vals.ref1 r]
  have hi := rv.ints
  refine SrtO.sorted_tupO SrtO.swo_int ho hc hd (by rw [← rv.length]; exact hz) (fun h2 h₁ a' _ => SrtO.ints_sortable hi h2) fun out h' h1 h2 hk => ?_
  obtain ⟨k1, k2, k3⟩ := SrtO.ints_out hi h1 h2
  have I1 : Inv X pins σ H { s with heap := h' } := I.kept (t' := s.toks) hk
  have hlen : ((out.map SrtO.iv).map V.int).length ≤ sizeLine := by rw [List.length_map, k2.length_eq]; rw [List.length_map] at hz; exact hz
  obtain ⟨ep, he'⟩ : ∃ ep, (sortedHeap (h'.push (seqObj "list" its.toArray 0)) h'.objs.size its out.toArray).get? h'.objs.size = some (seqObj "list" out.toArray ep) := sortedHeap_at (n := 0) (Heap.get?_push_size _ rfl)
  refine ⟨.ref _, upd H h'.objs.size (.lst ((out.map SrtO.iv).map V.int)), I1.laid (t' := s.toks) (fun b u z => ?_) (Nat.le_refl _) ⟨hlen, out, ep, vals_of_ints k1, he'⟩, rfl, q _ _ k2 k3 (I1.hok.fresh (Nat.le_refl _))⟩
  have hlt : b < h'.objs.size := Heap.lt_size z
  rw [sortedHeap_old (Nat.ne_of_lt hlt) (by rw [size_push']; exact Nat.lt_succ_of_lt hlt)]
  exact Heap.get?_push_of_some _ z
/-- ints in sequence -/
def sortI (ns : List Int) : List Int := ns.mergeSort (fun a b => decide (a ≤ b))
theorem sortI_of {ns ns' : List Int} (h1 : ns'.Perm ns) (h2 : ns'.Pairwise (· ≤ ·)) : ns' = sortI ns := by
  have p : (sortI ns).Perm ns := List.mergeSort_perm ns _
  have s : (sortI ns).Pairwise (fun a b => decide (a ≤ b) = true) := List.pairwise_mergeSort (fun a b c x y => by simp only [decide_eq_true_eq] at *; omega) (fun a b => by simp only [Bool.or_eq_true, decide_eq_true_eq]; omega) ns
  refine (h1.trans p.symm).eq_of_pairwise (le := (· ≤ ·)) (fun a b _ _ x y => Int.le_antisymm x y) h2 (s.imp fun z => by simpa using z)
def cSorted : List D → Mo D := fun ds => match ds with
  | [.lst xs] => match intsD xs with
    | some ns => retM (.lst ((sortI ns).map .int))
    | none => failM
  | [.tup xs] => match intsD xs with
    | some ns => retM (.lst ((sortI ns).map .int))
    | none => failM
  | _ => failM
theorem ca_sorted : CaD cs X (.builtin "sorted") cSorted := by
  have key : CallR X (.builtin "sorted") (fun vs H Q => rSortedI X.K vs H Q ∨ rSortedIT X.K vs H Q) := fun pins s σ H xs us Q I rv h => h.elim (cr_sortedI pins s σ H xs us Q I rv) (cr_sortedIT pins s σ H xs us Q I rv)
  refine ⟨_, key, fun ap B H p ds vs Q d p' e hp hb r hm q => ?_⟩
  unfold cSorted at hm
  split at hm
  · rename_i xs
    obtain ⟨v, rfl, rv⟩ := reps1 r
    rcases z : intsD xs with _ | ns
    · rw [z] at hm; cases hm
    · rw [z] at hm
      cases hm
      simp only [Rep] at rv
      obtain ⟨t, ys, rfl, h1, h2⟩ := rv
      cases repsI z h2
      refine .inl ⟨t, ns, rfl, SqL.of (e _ _ h1), fun ns' u g1 g2 hu => ?_⟩
      cases sortI_of g1 g2
      exact q _ _ _ (Nxt.new e hu) (hp.new hu) (by simp only [Rep]; exact ⟨u, _, rfl, upd_same, ints_reps _⟩)
  · rename_i xs
    obtain ⟨v, rfl, rv⟩ := reps1 r
    rcases z : intsD xs with _ | ns
    · rw [z] at hm; cases hm
    · rw [z] at hm
      cases hm
      simp only [Rep] at rv
      obtain ⟨t, ys, rfl, h1, h2⟩ := rv
      cases repsI z h2
      refine .inr ⟨t, ns, rfl, Evl.ex_t e h1, fun ns' u g1 g2 hu => ?_⟩
      cases sortI_of g1 g2
      exact q _ _ _ (Nxt.new e hu) (hp.new hu) (by simp only [Rep]; exact ⟨u, _, rfl, upd_same, ints_reps _⟩)
  · cases hm
end
end DL
end

section
set_option Elab.async false
set_option linter.all false
set_option maxRecDepth 100000
set_option maxHeartbeats 4000000
/-! DL: ranges as lists, own lists extended, drawn from, exchanged; two names at once; a tuple of ints of the module. -/
namespace DL
open PySem PySem.Spec PyProof.Rows L2
open Evl (Ex)
/-! ### a tuple of ints that the module names -/
def ivO : Value → Option Int
  | .int i _ => some i
  | _ => none
theorem vals_iv : ∀ {us : List Value} {ns : List Int}, us.map ivO = ns.map some → Vals (ns.map V.int) us
  | [], [], _ => .nil
  | [], _ :: _, h => by simp at h
  | _ :: _, [], h => by simp at h
  | u :: us, n :: ns, h => by
    simp only [List.map_cons, List.cons.injEq] at h
    cases u <;> first | (cases h.1; done) | skip
    rename_i i t
    cases h.1
    exact .cons ⟨t, rfl⟩ (vals_iv h.2)
def tTupI (x : Str) (ns : List Int) : Fr' → Bool := fun K => match PySem.W.nsIn K mainGlobals x with
  | some (some (.ref a)) => match K.lookup a with
    | some o => decide (o.cls = .type "tuple") && (match o.data with
      | .seq its _ => decide (its.size ≤ sizeLine) && decide (its.toList.map ivO = ns.map some)
      | _ => false)
    | none => false
  | _ => false
theorem tTupI_ok {K : Fr'} {h : Heap} {mg : Str → Option Value} {x : Str} {ns : List Int} (X : K.In h) (G : h.Ns mainGlobals mg) (c : tTupI x ns K = true) : ∃ t, mg x = some (.ref t) ∧ ∀ H, SqT K H t (ns.map V.int) := by
  unfold tTupI at c
  split at c
  · rename_i a e
    split at c
    · rename_i o e2
      obtain ⟨c1, c2⟩ := He.ba c
      split at c2
      · rename_i its n e3
        obtain ⟨c3, c4⟩ := He.ba c2
        exact ⟨a, PySem.W.mg_of X G e, fun H => .inr ⟨o, its, n, e2, of_decide_eq_true c1, e3, of_decide_eq_true c3, vals_iv (of_decide_eq_true c4)⟩⟩
      · cases c2
    · cases c
  · cases c
section
variable {cs : CT} {X : Cx} {e a b c : Expr} {es : List Expr} {m ma mb mc : Env' → Mo D} {oa ob : Env' → Mo (List D)} {pos : Pos}
theorem p_gtup {x : Str} {t : Addr} {ns : List Int} (hg : Gl X x) (hm : X.mg x = some (.ref t)) (ht : ∀ H, SqT X.K H t (ns.map V.int)) (hd : (x == ("__debug__" : Str)) = false := by decide) : PED cs X (.Name x pos) (mC (.tup (ns.map .int))) :=
  p_const (pe_glob hg hm (v := .ref t) rfl hd) fun _ _ => by simp only [Rep]; exact ⟨t, _, rfl, ht _, ints_reps ns⟩
/-! ### list(range(..)), tuple(range(..)) -/
theorem reps_rg {ap : Addr} {B : Hp} (lo hi : Int) : Reps X.K cs ap B (rngD lo (hi - lo).toNat) (rgV lo hi) := by
  unfold rngD rgV
  generalize List.range (hi - lo).toNat = l
  induction l with
  | nil => exact reps_nil
  | cons i l ih => exact reps_cons (by simp only [Rep]) ih
def oRg1 (ma : Env' → Mo D) : Env' → Mo (List D) := fun env => bindM (ma env) fun x => match x with
  | .int n => if -1000000 ≤ n ∧ n ≤ 1000000 then retM (rngD 0 n.toNat) else failM
  | _ => failM
def oRg2 (ma mb : Env' → Mo D) : Env' → Mo (List D) := fun env => bindM (ma env) fun x => bindM (mb env) fun y => match x, y with
  | .int i, .int n => if -1000000 ≤ n ∧ n ≤ 1000000 ∧ -1000000 ≤ i ∧ i ≤ 1000000 then retM (rngD i (n - i).toNat) else failM
  | _, _ => failM
theorem rg_ok {i n : Int} (h1 : -1000000 ≤ n) (h2 : n ≤ 1000000) (h3 : -1000000 ≤ i) (h4 : i ≤ 1000000) : RgOk i n := ⟨by omega, by omega, by omega, by omega, by omega⟩
theorem o_listRg1 {p p2 rpos : Pos} (hc : X.calm = true) (hl : X.mg "list" = none) (hm : X.mg "range" = none) (ha : PED cs X a ma) (hgl : Gl X "list" := by rfl) (hg : Gl X "range" := by rfl) (na : starEach [a] X.env = (false, eval a X.env) :: starEach [] X.env := by rfl)
    (nr : starEach [.Call (.Name "range" p2) [a] [] rpos] X.env = (false, eval (.Call (.Name "range" p2) [a] [] rpos) X.env) :: starEach [] X.env := by rfl) : POD cs X (.Call (.Name "list" p) [.Call (.Name "range" p2) [a] [] rpos] [] pos) (oRg1 ma) := by
  obtain ⟨ta, a1, a2⟩ := ha.ex
  refine ⟨_, pe_listRg hc hgl hl (prg_1 hg hm a1 na) nr, fun ap H0 B0 B σ env H p Q ds p' k hm q => ?_⟩
  obtain ⟨x, p1, e1, e2⟩ := bindM_some hm
  split at e2
  · split at e2
    · rename_i n hn
      cases e2
      refine a2 ap H0 B0 B σ env H p _ _ p' k e1 fun B1 H1 v n1 hp1 r1 => ?_
      simp only [Rep] at r1
      have := reps_rg (X := X) (cs := cs) (ap := ap) (B := B1) 0 n
      rw [Int.sub_zero] at this
      exact ⟨n, r1, rg_ok hn.1 hn.2 (by omega) (by omega), q.new n1 hp1 this⟩
    · cases e2
  · cases e2
theorem o_listRg2 {p p2 rpos : Pos} (hc : X.calm = true) (hl : X.mg "list" = none) (hm : X.mg "range" = none) (ha : PED cs X a ma) (hb : PED cs X b mb) (hgl : Gl X "list" := by rfl) (hg : Gl X "range" := by rfl) (na : starEach [a, b] X.env = (false, eval a X.env) :: starEach [b] X.env := by rfl)
    (nb : starEach [b] X.env = (false, eval b X.env) :: starEach [] X.env := by rfl) (hpl : (backTo rpos (starEach [b] X.env)).any (·.1) = false := by rfl)
    (nr : starEach [.Call (.Name "range" p2) [a, b] [] rpos] X.env = (false, eval (.Call (.Name "range" p2) [a, b] [] rpos) X.env) :: starEach [] X.env := by rfl) : POD cs X (.Call (.Name "list" p) [.Call (.Name "range" p2) [a, b] [] rpos] [] pos) (oRg2 ma mb) := by
  obtain ⟨ta, a1, a2⟩ := ha.ex
  obtain ⟨tb, b1, b2⟩ := hb.ex
  refine ⟨_, pe_listRg hc hgl hl (prg_2 hg hm a1 b1 na nb hpl) nr, fun ap H0 B0 B σ env H p Q ds p' k hm q => ?_⟩
  obtain ⟨x, p1, e1, e2⟩ := bindM_some hm
  obtain ⟨y, p2, e3, e4⟩ := bindM_some e2
  split at e4
  · split at e4
    · rename_i i n hn
      cases e4
      refine a2 ap H0 B0 B σ env H p _ _ p1 k e1 fun B1 H1 v n1 hp1 r1 => ?_
      refine b2 ap H0 B0 B1 σ env H1 p1 _ _ p' (k.nxt n1 hp1) e3 fun B2 H2 u n2 hp2 r2 => ?_
      simp only [Rep] at r1 r2
      exact ⟨i, n, r1, r2, rg_ok hn.1 hn.2.1 hn.2.2.1 hn.2.2.2, q.new (n1.trans n2) hp2 (reps_rg i n)⟩
    · cases e4
  · cases e4
theorem p_tupRg1 {p p2 rpos : Pos} (hc : X.calm = true) (hl : X.mg "tuple" = none) (hm : X.mg "range" = none) (ha : PED cs X a ma) (hgl : Gl X "tuple" := by rfl) (hg : Gl X "range" := by rfl) (na : starEach [a] X.env = (false, eval a X.env) :: starEach [] X.env := by rfl)
    (nr : starEach [.Call (.Name "range" p2) [a] [] rpos] X.env = (false, eval (.Call (.Name "range" p2) [a] [] rpos) X.env) :: starEach [] X.env := by rfl) : PED cs X (.Call (.Name "tuple" p) [.Call (.Name "range" p2) [a] [] rpos] [] pos) (mTup (oRg1 ma)) := by
  obtain ⟨ta, a1, a2⟩ := ha.ex
  refine ⟨_, pe_tupRg hc hgl hl (prg_1 hg hm a1 na) nr, fun ap H0 B0 B σ env H p Q d p' k hm q => ?_⟩
  obtain ⟨ds, p1, e1, e2⟩ := bindM_some hm
  obtain ⟨x, p2, e3, e4⟩ := bindM_some e1
  split at e4
  · split at e4
    · rename_i n hn
      cases e4
      split at e2
      · cases e2
        refine a2 ap H0 B0 B σ env H p _ _ p' k e3 fun B1 H1 v n1 hp1 r1 => ?_
        simp only [Rep] at r1
        have := reps_rg (X := X) (cs := cs) (ap := ap) (B := B1) 0 n
        rw [Int.sub_zero] at this
        refine ⟨n, r1, rg_ok hn.1 hn.2 (by omega) (by omega), fun t ht => ?_⟩
        have n2 : Nxt ap B1 H1 (upd B1 t (.tup (rgV 0 n))) (upd H1 t (.tup (rgV 0 n))) := Nxt.new n1.bh ht
        exact q _ _ _ (n1.trans n2) (hp1.new ht) (by simp only [Rep]; exact ⟨t, _, rfl, SqT.of upd_same, this.mono n2.bb⟩)
      · cases e2
    · cases e4
  · cases e4
/-! ### xs.extend(e) -/
def mExt (i : Nat) (m : Env' → Mo D) : MS := fun env => bindM (m env) fun d => match env[i]?, d with
  | some (.own ds), .lst es => if ds.length + es.length ≤ 100000 then retM (.nx, env.set i (.own (ds ++ es))) else failM
  | _, _ => failM
theorem s_ext (i : Nat) {x : Str} {p1 apos cpos : Pos} (h : PED cs X e m) (hN : X.N[i]? = some x := by rfl) (hv : Vis X.env.scope x := by first | exact Or.inl rfl | exact Or.inr (Or.inl rfl) | exact Or.inr (Or.inr rfl)) (hd : (x == ("__debug__" : Str)) = false := by decide) (hcd : (x == ("__classdict__" : Str)) = false := by decide)
    (hs : starEach [e] X.env = (false, eval e X.env) :: starEach [] X.env := by rfl) (hsw : swapsWith (.Call (.Attribute (.Name x p1) "extend" apos) [e] [] cpos) none pos.line X.env = pure false := by rfl) (hbase : attributeBase (.Name x p1) "extend" X.env (eval (.Name x p1) X.env) = eval (.Name x p1) X.env := by rfl)
    (hline : (apos.endLine == cpos.line) = true := by rfl) (hfew : ((((backTo cpos (starEach [e] X.env)).all fun x => !x.fst) && (backToKw cpos (keywordEach [] X.env)).all fun x => x.fst.isSome) && decide (([e].length + ([] : List Keyword).length + if ([] : List Keyword).isEmpty = true then 0 else 1) < 30)) = true := by rfl) :
    PSD cs X (.Expr (.Call (.Attribute (.Name x p1) "extend" apos) [e] [] cpos) pos) (mExt i m) := by
  obtain ⟨te, h1, h2⟩ := h.ex
  refine ⟨_, ps_expr (pe_bm PySem.F.plainAttrs_list PySem.F.slot_list_extend PySem.F.type_list_extend mt_extend (pe_var hN hv hd hcd) (L2.pa_cons h1 L2.pa_nil hs) (hbase := hbase) (hs := hs) (hfew := hfew) (hline := hline)) hsw, fun ap H0 B0 B σ env H p E o env' p' k hm q => ?_⟩
  obtain ⟨d, p1, e1, e2⟩ := bindM_some hm
  rcases g : env[i]? with _ | _ | _ | ds | _
  · rw [g] at e2; cases e2
  · rw [g] at e2; cases e2
  · rw [g] at e2; cases e2
  · rw [g] at e2
    cases d <;> first | (cases e2; done) | skip
    rename_i es'
    dsimp only at e2
    split at e2
    · rename_i hz
      cases e2
      obtain ⟨a, xs, g1, g2, g3, g4⟩ := k.sl i _ g
      have nap : a ≠ ap := fun z => k.hap (z ▸ k.ownNew i ds a g g1)
      refine ⟨.ref a, g1, .inl ⟨rfl, xs, SqL.of g3⟩, h2 ap H0 B0 B σ env H p _ _ p' k e1 fun B1 H1 v n1 hp1 r1 => ?_⟩
      have k1 := k.nxt n1 hp1
      simp only [Rep] at r1
      obtain ⟨b, ys, rfl, r2, r3⟩ := r1
      refine ⟨a, b, xs, ys, rfl, rfl, n1.fr _ _ g3 nap, n1.bh _ _ r2, sz100 (by rw [g4.length, r3.length]; exact hz), ?_⟩
      exact q B1 σ _ n1.bb (k1.mut g g1 ((g4.mono n1.bb).append r3))
    · cases e2
  · rw [g] at e2; cases e2
/-! ### xs.append(ys.pop(e)) -/
def mAppPop (i j : Nat) (m : Env' → Mo D) : MS := fun env => bindM (m env) fun d => match env[i]?, env[j]?, d with
  | some (.own ds), some (.own es), .int n => match ixN es.length n with
    | some kk => match es[kk]? with
      | some y => if i ≠ j ∧ ds.length ≤ 100000 ∧ es.length ≤ 100000 then retM (.nx, (env.set j (.own (es.eraseIdx kk))).set i (.own (ds ++ [y]))) else failM
      | none => failM
    | none => failM
  | _, _, _ => failM
theorem Reps.erase {ap : Addr} {B : Hp} : ∀ {ds : List D} {xs : List V} (i : Nat), Reps X.K cs ap B ds xs → Reps X.K cs ap B (ds.eraseIdx i) (xs.eraseIdx i)
  | [], xs, i, h => by
    simp only [Reps] at h
    subst h
    simp only [List.eraseIdx_nil]
    exact reps_nil
  | d :: ds, xs, 0, h => by
    simp only [Reps] at h
    obtain ⟨x, t, rfl, h1, h2⟩ := h
    exact h2
  | d :: ds, xs, i + 1, h => by
    simp only [Reps] at h
    obtain ⟨x, t, rfl, h1, h2⟩ := h
    exact reps_cons h1 (Reps.erase i h2)
theorem s_appPop (i j : Nat) {x y : Str} {p1 apos cpos p2 apos2 cpos2 : Pos} (h : PED cs X e m) (hN : X.N[i]? = some x := by rfl) (hNy : X.N[j]? = some y := by rfl) (hv : Vis X.env.scope x := by first | exact Or.inl rfl | exact Or.inr (Or.inl rfl) | exact Or.inr (Or.inr rfl)) (hvy : Vis X.env.scope y := by first | exact Or.inl rfl | exact Or.inr (Or.inl rfl) | exact Or.inr (Or.inr rfl))
    (hd : (x == ("__debug__" : Str)) = false := by decide) (hcd : (x == ("__classdict__" : Str)) = false := by decide) (hdy : (y == ("__debug__" : Str)) = false := by decide) (hcdy : (y == ("__classdict__" : Str)) = false := by decide)
    (hs2 : starEach [e] X.env = (false, eval e X.env) :: starEach [] X.env := by rfl)
    (hs : starEach [.Call (.Attribute (.Name y p2) "pop" apos2) [e] [] cpos2] X.env = (false, eval (.Call (.Attribute (.Name y p2) "pop" apos2) [e] [] cpos2) X.env) :: starEach [] X.env := by rfl)
    (hsw : swapsWith (.Call (.Attribute (.Name x p1) "append" apos) [.Call (.Attribute (.Name y p2) "pop" apos2) [e] [] cpos2] [] cpos) none pos.line X.env = pure false := by rfl)
    (hbase : attributeBase (.Name x p1) "append" X.env (eval (.Name x p1) X.env) = eval (.Name x p1) X.env := by rfl) (hbase2 : attributeBase (.Name y p2) "pop" X.env (eval (.Name y p2) X.env) = eval (.Name y p2) X.env := by rfl)
    (hline : (apos.endLine == cpos.line) = true := by rfl) (hline2 : (apos2.endLine == cpos2.line) = true := by rfl)
    (hfew : ((((backTo cpos (starEach [.Call (.Attribute (.Name y p2) "pop" apos2) [e] [] cpos2] X.env)).all fun x => !x.fst) && (backToKw cpos (keywordEach [] X.env)).all fun x => x.fst.isSome) && decide (([Expr.Call (.Attribute (.Name y p2) "pop" apos2) [e] [] cpos2].length + ([] : List Keyword).length + if ([] : List Keyword).isEmpty = true then 0 else 1) < 30)) = true := by rfl)
    (hfew2 : ((((backTo cpos2 (starEach [e] X.env)).all fun x => !x.fst) && (backToKw cpos2 (keywordEach [] X.env)).all fun x => x.fst.isSome) && decide (([e].length + ([] : List Keyword).length + if ([] : List Keyword).isEmpty = true then 0 else 1) < 30)) = true := by rfl) :
    PSD cs X (.Expr (.Call (.Attribute (.Name x p1) "append" apos) [.Call (.Attribute (.Name y p2) "pop" apos2) [e] [] cpos2] [] cpos) pos) (mAppPop i j m) := by
  obtain ⟨te, h1, h2⟩ := h.ex
  refine ⟨_, ps_expr (pe_bm PySem.F.plainAttrs_list PySem.F.slot_list_append PySem.F.type_list_append mt_append (pe_var hN hv hd hcd)
    (L2.pa_cons (pe_bm PySem.F.plainAttrs_list PySem.F.slot_list_pop PySem.F.type_list_pop mt_popAt (pe_var hNy hvy hdy hcdy) (L2.pa_cons h1 L2.pa_nil hs2) (hbase := hbase2) (hs := hs2) (hfew := hfew2) (hline := hline2)) L2.pa_nil hs) (hbase := hbase) (hs := hs) (hfew := hfew) (hline := hline)) hsw, fun ap H0 B0 B σ env H p E o env' p' k hm q => ?_⟩
  obtain ⟨d, p1, e1, e2⟩ := bindM_some hm
  obtain ⟨ds, g⟩ : ∃ ds, env[i]? = some (.own ds) := by
    rcases g : env[i]? with _ | _ | _ | ds | _
    · rw [g] at e2; cases e2
    · rw [g] at e2; cases e2
    · rw [g] at e2; cases e2
    · exact ⟨ds, rfl⟩
    · rw [g] at e2; cases e2
  rw [g] at e2
  obtain ⟨es', gy⟩ : ∃ ds, env[j]? = some (.own ds) := by
    rcases gy : env[j]? with _ | _ | _ | ds | _
    · rw [gy] at e2; cases e2
    · rw [gy] at e2; cases e2
    · rw [gy] at e2; cases e2
    · exact ⟨ds, rfl⟩
    · rw [gy] at e2; cases e2
  rw [gy] at e2
  cases d <;> first | (cases e2; done) | skip
  · rename_i n
    dsimp only at e2
    rcases z : ixN es'.length n with _ | kk
    · rw [z] at e2; cases e2
    · rw [z] at e2
      dsimp only at e2
      rcases zy : es'[kk]? with _ | d'
      · rw [zy] at e2; cases e2
      · rw [zy] at e2
        dsimp only at e2
        split at e2
        case isFalse => cases e2
        rename_i hz
        obtain ⟨hij, hz1, hz2⟩ := hz
        cases e2
        obtain ⟨a, xs, g1, g2, g3, g4⟩ := k.sl i _ g
        obtain ⟨b, ys, y1, y2, y3, y4⟩ := k.sl j _ gy
        have nap : a ≠ ap := fun z => k.hap (z ▸ k.ownNew i ds a g g1)
        have napb : b ≠ ap := fun z => k.hap (z ▸ k.ownNew j es' b gy y1)
        have hab : a ≠ b := fun z => k.ownNe i j ds es' a hij g gy g1 (by rw [z]; exact y1)
        refine ⟨.ref a, g1, .inl ⟨rfl, xs, SqL.of g3⟩, .ref b, y1, .inl ⟨rfl, ys, SqL.of y3⟩, h2 ap H0 B0 B σ env H p _ _ p' k e1 fun B1 H1 v n1 hp1 r1 => ?_⟩
        have k1 := k.nxt n1 hp1
        simp only [Rep] at r1
        obtain ⟨w, w1, w2⟩ := y4.get zy
        obtain ⟨i1, i2, i3, i4⟩ := ixN_seq z
        have hyb : H1 b = some (.lst ys) := n1.fr _ _ y3 napb
        refine ⟨b, ys, n, kk, w, rfl, by rw [r1], hyb, by omega, by omega, by rw [y4.length]; exact i1, w1, ?_⟩
        have k2 := k1.mut gy y1 (Reps.erase kk (y4.mono n1.bb))
        have g' : (env.set j (.own (es'.eraseIdx kk)))[i]? = some (.own ds) := by rw [List.getElem?_set_ne (fun z => hij z.symm)]; exact g
        refine ⟨a, xs, w, rfl, rfl, by rw [upd_ne hab]; exact n1.fr _ _ g3 nap, Nat.lt_of_le_of_lt (by rw [g4.length]; exact hz1) (by rw [sizeLine_eq]; decide), ?_⟩
        exact q B1 σ _ n1.bb (k2.mut g' g1 ((g4.mono n1.bb).append (reps_cons (w2.mono n1.bb) reps_nil)))
end
end DL
end

section
set_option Elab.async false
set_option linter.all false
set_option maxRecDepth 100000
set_option maxHeartbeats 4000000
/-! DL: two names at once with new lists; two items exchanged. -/
namespace DL
open PySem PySem.Spec PyProof.Rows L2
open Evl (Ex)
section
variable {cs : CT} {X : Cx} {e a b c : Expr} {es : List Expr} {m ma mb mc : Env' → Mo D} {oa ob : Env' → Mo (List D)} {pos : Pos}
/-- a new list, put into a slot -/
theorem Ok.setNew {K : PySem.W.Frag} {ap : Addr} {H0 B0 B H B1 H1 : Hp} {σ : L2.St} {env : Env'} {p p1 : Pt} (k : Ok K cs ap H0 B0 B σ env H p) (n : Nxt ap B H B1 H1) (k1 : Ok K cs ap H0 B0 B1 σ env H1 p1) {i : Nat} {ds : List D} {a : Addr} {xs : List V} (hi : i < env.length) (hn : H a = none) (hb : B1 a = none) (hh : H1 a = some (.lst xs)) (r : Reps K cs ap B1 ds xs) : Ok K cs ap H0 B0 B1 (σ.set i (some (.ref a))) (env.set i (.own ds)) H1 p1 := by
  have h0 : H0 a = none := by
    cases z : H0 a with
    | none => rfl
    | some o => exact absurd hn (k.st.nn a (by rw [z]; exact fun y => nomatch y))
  refine k1.seto hi hb hh r h0 fun j es hj hj' g => ?_
  obtain ⟨b, ys, g1, g2, g3, g4⟩ := k.sl j _ hj'
  rw [g] at g1
  cases g1
  rw [hn] at g3
  cases g3
theorem pot_ne {ap a : Addr} {H : Hp} {p : Pt} (h : PotAt ap H p) (hn : H a = none) : a ≠ ap := fun z => by
  unfold PotAt at h
  rw [← z, hn] at h
  cases h
def mParOO (i j : Nat) (oa ob : Env' → Mo (List D)) : MS := fun env => bindM (oa env) fun ds => bindM (ob env) fun es => if i < env.length ∧ j < env.length ∧ i ≠ j then retM (.nx, (env.set i (.own ds)).set j (.own es)) else failM
def mParOV (i j : Nat) (oa : Env' → Mo (List D)) (mb : Env' → Mo D) : MS := fun env => bindM (oa env) fun ds => bindM (mb env) fun d => if i < env.length then retM (.nx, (env.set i (.own ds)).set j (.val d)) else failM
def mParVO (i j : Nat) (ma : Env' → Mo D) (ob : Env' → Mo (List D)) : MS := fun env => bindM (ma env) fun d => bindM (ob env) fun es => if j < env.length then retM (.nx, (env.set i (.val d)).set j (.own es)) else failM
theorem s_parOO (i j : Nat) {x y : Str} {px py pt : Pos} {kt k2 pt2} (hc : X.calm = true) (hN : X.N.Nodup) (ha : POD cs X a oa) (hb : POD cs X b ob) (hw : swappedStores [.Tuple [.Name x px, .Name y py] kt pt] (.Tuple [a, b] k2 pt2) X.env = pure (some [x, y]))
    (hi : X.N[i]? = some x := by rfl) (hj : X.N[j]? = some y := by rfl) (hij : i ≠ j := by decide) (hx : X.env.scope.names.lookup x = some .local := by rfl) (hy : X.env.scope.names.lookup y = some .local := by rfl)
    (hs : swapsWithSole [.Tuple [.Name x px, .Name y py] kt pt] (.Tuple [a, b] k2 pt2) pos.line X.env = pure false := by rfl) (h1 : starEach [a, b] X.env = (false, eval a X.env) :: starEach [b] X.env := by rfl) (h2 : starEach [b] X.env = (false, eval b X.env) :: starEach [] X.env := by rfl) : PSD cs X (.Assign [.Tuple [.Name x px, .Name y py] kt pt] (.Tuple [a, b] k2 pt2) pos) (mParOO i j oa ob) := by
  obtain ⟨ta, a1, a2⟩ := ha.ex
  obtain ⟨tb, b1, b2⟩ := hb.ex
  refine ⟨_, ps_par hc hN hi hj hij hx hy (L2.pa_cons a1 (L2.pa_cons b1 L2.pa_nil h2) h1) hw hs, fun ap H0 B0 B σ env H p E o env' p' k hm q => ?_⟩
  obtain ⟨ds, p1, e1, e2⟩ := bindM_some hm
  obtain ⟨es', p2, e3, e4⟩ := bindM_some e2
  split at e4
  case isFalse => cases e4
  rename_i hl
  cases e4
  refine a2 ap H0 B0 B σ env H p _ ds p1 k e1 fun B1 H1 u xs n1 hp1 hn1 hb1 hh1 r1 => ?_
  have k1 := k.nxt n1 hp1
  refine b2 ap H0 B0 B1 σ env H1 p1 _ es' p' k1 e3 fun B2 H2 v ys n2 hp2 hn2 hb2 hh2 r2 => ?_
  have k2 := k1.nxt n2 hp2
  have nap : u ≠ ap := pot_ne k.pot hn1
  have huv : u ≠ v := fun z => by rw [z, hn2] at hh1; cases hh1
  have g1 := Ok.setNew k (n1.trans n2) k2 hl.1 hn1 (n2.nw u (by rw [hh1]; exact fun y => nomatch y) hb1) (n2.fr _ _ hh1 nap) (r1.mono n2.bb)
  have h0 : H0 v = none := by
    cases z : H0 v with
    | none => rfl
    | some o => exact absurd hn2 (k1.st.nn v (by rw [z]; exact fun y => nomatch y))
  refine ⟨.ref u, .ref v, rfl, q B2 _ H2 (n1.bb.trans n2.bb) (g1.seto (by rw [List.length_set]; exact hl.2.1) hb2 hh2 r2 h0 fun l es2 hl2 hl' g => ?_)⟩
  by_cases hli : i = l
  · subst hli
    rw [List.getElem?_set_self (by rw [k.len]; exact hl.1)] at g
    cases g
    exact huv rfl
  · rw [List.getElem?_set_ne hli] at g hl'
    obtain ⟨t, zs, g1, g2, g3, g4⟩ := k1.sl l _ hl'
    rw [g] at g1
    cases g1
    rw [hn2] at g3
    cases g3
theorem s_parOV (i j : Nat) {x y : Str} {px py pt : Pos} {kt k2 pt2} (hc : X.calm = true) (hN : X.N.Nodup) (ha : POD cs X a oa) (hb : PED cs X b mb) (hw : swappedStores [.Tuple [.Name x px, .Name y py] kt pt] (.Tuple [a, b] k2 pt2) X.env = pure (some [x, y]))
    (hi : X.N[i]? = some x := by rfl) (hj : X.N[j]? = some y := by rfl) (hij : i ≠ j := by decide) (hx : X.env.scope.names.lookup x = some .local := by rfl) (hy : X.env.scope.names.lookup y = some .local := by rfl)
    (hs : swapsWithSole [.Tuple [.Name x px, .Name y py] kt pt] (.Tuple [a, b] k2 pt2) pos.line X.env = pure false := by rfl) (h1 : starEach [a, b] X.env = (false, eval a X.env) :: starEach [b] X.env := by rfl) (h2 : starEach [b] X.env = (false, eval b X.env) :: starEach [] X.env := by rfl) : PSD cs X (.Assign [.Tuple [.Name x px, .Name y py] kt pt] (.Tuple [a, b] k2 pt2) pos) (mParOV i j oa mb) := by
  obtain ⟨ta, a1, a2⟩ := ha.ex
  obtain ⟨tb, b1, b2⟩ := hb.ex
  refine ⟨_, ps_par hc hN hi hj hij hx hy (L2.pa_cons a1 (L2.pa_cons b1 L2.pa_nil h2) h1) hw hs, fun ap H0 B0 B σ env H p E o env' p' k hm q => ?_⟩
  obtain ⟨ds, p1, e1, e2⟩ := bindM_some hm
  obtain ⟨d, p2, e3, e4⟩ := bindM_some e2
  split at e4
  case isFalse => cases e4
  rename_i hl
  cases e4
  refine a2 ap H0 B0 B σ env H p _ ds p1 k e1 fun B1 H1 u xs n1 hp1 hn1 hb1 hh1 r1 => ?_
  have k1 := k.nxt n1 hp1
  refine b2 ap H0 B0 B1 σ env H1 p1 _ d p' k1 e3 fun B2 H2 v n2 hp2 r2 => ?_
  have k2 := k1.nxt n2 hp2
  have nap : u ≠ ap := pot_ne k.pot hn1
  have g1 := Ok.setNew k (n1.trans n2) k2 hl hn1 (n2.nw u (by rw [hh1]; exact fun y => nomatch y) hb1) (n2.fr _ _ hh1 nap) (r1.mono n2.bb)
  exact ⟨.ref u, v, rfl, q B2 _ H2 (n1.bb.trans n2.bb) (g1.setv' r2)⟩
theorem s_parVO (i j : Nat) {x y : Str} {px py pt : Pos} {kt k2 pt2} (hc : X.calm = true) (hN : X.N.Nodup) (ha : PED cs X a ma) (hb : POD cs X b ob) (hw : swappedStores [.Tuple [.Name x px, .Name y py] kt pt] (.Tuple [a, b] k2 pt2) X.env = pure (some [x, y]))
    (hi : X.N[i]? = some x := by rfl) (hj : X.N[j]? = some y := by rfl) (hij : i ≠ j := by decide) (hx : X.env.scope.names.lookup x = some .local := by rfl) (hy : X.env.scope.names.lookup y = some .local := by rfl)
    (hs : swapsWithSole [.Tuple [.Name x px, .Name y py] kt pt] (.Tuple [a, b] k2 pt2) pos.line X.env = pure false := by rfl) (h1 : starEach [a, b] X.env = (false, eval a X.env) :: starEach [b] X.env := by rfl) (h2 : starEach [b] X.env = (false, eval b X.env) :: starEach [] X.env := by rfl) : PSD cs X (.Assign [.Tuple [.Name x px, .Name y py] kt pt] (.Tuple [a, b] k2 pt2) pos) (mParVO i j ma ob) := by
  obtain ⟨ta, a1, a2⟩ := ha.ex
  obtain ⟨tb, b1, b2⟩ := hb.ex
  refine ⟨_, ps_par hc hN hi hj hij hx hy (L2.pa_cons a1 (L2.pa_cons b1 L2.pa_nil h2) h1) hw hs, fun ap H0 B0 B σ env H p E o env' p' k hm q => ?_⟩
  obtain ⟨d, p1, e1, e2⟩ := bindM_some hm
  obtain ⟨es', p2, e3, e4⟩ := bindM_some e2
  split at e4
  case isFalse => cases e4
  rename_i hl
  cases e4
  refine a2 ap H0 B0 B σ env H p _ d p1 k e1 fun B1 H1 u n1 hp1 r1 => ?_
  have k1 := k.nxt n1 hp1
  refine b2 ap H0 B0 B1 σ env H1 p1 _ es' p' k1 e3 fun B2 H2 v ys n2 hp2 hn2 hb2 hh2 r2 => ?_
  have k2 := k1.nxt n2 hp2
  have h0 : H0 v = none := by
    cases z : H0 v with
    | none => rfl
    | some o => exact absurd hn2 (k1.st.nn v (by rw [z]; exact fun y => nomatch y))
  refine ⟨u, .ref v, rfl, q B2 _ H2 (n1.bb.trans n2.bb) ((k2.setv' (i := i) (r1.mono n2.bb)).seto (by rw [List.length_set]; exact hl) hb2 hh2 r2 h0 fun l es2 hl2 hl' g => ?_)⟩
  by_cases hli : i = l
  · subst hli
    by_cases hii : i < env.length
    · rw [List.getElem?_set_self hii] at hl'
      cases hl'
    · rw [List.getElem?_eq_none (by rw [List.length_set]; omega)] at hl'
      cases hl'
  · rw [List.getElem?_set_ne hli] at g hl'
    obtain ⟨t, zs, g1, g2, g3, g4⟩ := k1.sl l _ hl'
    rw [g] at g1
    cases g1
    rw [hn2] at g3
    cases g3
def mPar3 (i j l : Nat) (m : Env' → Mo (List D)) : MS := fun env => bindM (m env) fun ds => match ds with
  | [d, e, f] => retM (.nx, ((env.set i (.val d)).set j (.val e)).set l (.val f))
  | _ => failM
theorem s_par3 (i j l : Nat) {x y z : Str} {c : Expr} {px py pz pt : Pos} {kt k2 pt2} {m : Env' → Mo (List D)} (hc : X.calm = true) (hN : X.N.Nodup) (ha : PAD cs X [a, b, c] m) (hw : swappedStores [.Tuple [.Name x px, .Name y py, .Name z pz] kt pt] (.Tuple [a, b, c] k2 pt2) X.env = pure (some [x, y, z]))
    (hi : X.N[i]? = some x := by rfl) (hj : X.N[j]? = some y := by rfl) (hl : X.N[l]? = some z := by rfl) (hij : i ≠ j := by decide) (hil : i ≠ l := by decide) (hjl : j ≠ l := by decide) (hx : X.env.scope.names.lookup x = some .local := by rfl) (hy : X.env.scope.names.lookup y = some .local := by rfl) (hz : X.env.scope.names.lookup z = some .local := by rfl)
    (hs : swapsWithSole [.Tuple [.Name x px, .Name y py, .Name z pz] kt pt] (.Tuple [a, b, c] k2 pt2) pos.line X.env = pure false := by rfl) : PSD cs X (.Assign [.Tuple [.Name x px, .Name y py, .Name z pz] kt pt] (.Tuple [a, b, c] k2 pt2) pos) (mPar3 i j l m) := by
  obtain ⟨t, a1, a2⟩ := ha.ex
  refine ⟨_, ps_par3 hc hN hi hj hl hij hil hjl hx hy hz a1 hw hs, fun ap H0 B0 B σ env H p E o env' p' k hm q => ?_⟩
  obtain ⟨ds, p1, e1, e2⟩ := bindM_some hm
  split at e2
  · rename_i d e f
    cases e2
    refine a2 ap H0 B0 B σ env H p _ _ p' k e1 fun B' H' vs n hp r => ?_
    simp only [Reps] at r
    obtain ⟨v, _, rfl, r1, w, _, rfl, r2, u, _, rfl, r3, rfl⟩ := r
    exact ⟨v, w, u, rfl, q B' _ H' n.bb ((((k.nxt n hp).setv' r1).setv' r2).setv' r3)⟩
  · cases e2
/-! ### xs[i], xs[j] = a, b -/
def mSwap (i ji jj : Nat) (m : Env' → Mo D) : MS := fun env => bindM (m env) fun d => match env[i]?, env[ji]?, env[jj]?, d with
  | some (.own ds), some (.val (.int n)), some (.val (.int l)), .tup [x, y] => match ixN ds.length n, ixN ds.length l with
    | some k1, some k2 => retM (.nx, env.set i (.own ((ds.set k1 x).set k2 y)))
    | _, _ => failM
  | _, _, _, _ => failM
theorem s_swap (i ji jj : Nat) {x y z : Str} {p1 p2 p3 p4 t1 t2 tp : Pos} {kk} (hc : X.calm = true) (h : PED cs X e m) (hN : X.N[i]? = some x := by rfl) (hNi : X.N[ji]? = some y := by rfl) (hNj : X.N[jj]? = some z := by rfl)
    (hv : Vis X.env.scope x := by first | exact Or.inl rfl | exact Or.inr (Or.inl rfl) | exact Or.inr (Or.inr rfl)) (hvy : Vis X.env.scope y := by first | exact Or.inl rfl | exact Or.inr (Or.inl rfl) | exact Or.inr (Or.inr rfl)) (hvz : Vis X.env.scope z := by first | exact Or.inl rfl | exact Or.inr (Or.inl rfl) | exact Or.inr (Or.inr rfl))
    (hd : (x == ("__debug__" : Str)) = false := by decide) (hcd : (x == ("__classdict__" : Str)) = false := by decide) (hdy : (y == ("__debug__" : Str)) = false := by decide) (hcdy : (y == ("__classdict__" : Str)) = false := by decide) (hdz : (z == ("__debug__" : Str)) = false := by decide) (hcdz : (z == ("__classdict__" : Str)) = false := by decide)
    (ha1 : ∀ v, assign (.Subscript (.Name x p1) (.Name y p2) t1) X.env v = (do let ov ← holding [v] (eval (.Name x p1) X.env); let iv ← holding [v, ov] (eval (.Name y p2) X.env); standAt t1; holding [v, ov, iv] (setItem ov iv v); release [v, ov, iv] []) := by intro _; rfl)
    (ha2 : ∀ v, assign (.Subscript (.Name x p3) (.Name z p4) t2) X.env v = (do let ov ← holding [v] (eval (.Name x p3) X.env); let iv ← holding [v, ov] (eval (.Name z p4) X.env); standAt t2; holding [v, ov, iv] (setItem ov iv v); release [v, ov, iv] []) := by intro _; rfl)
    (hs : swapsWithSole [.Tuple [.Subscript (.Name x p1) (.Name y p2) t1, .Subscript (.Name x p3) (.Name z p4) t2] kk tp] e pos.line X.env = pure false := by rfl) (hw : swappedStores [.Tuple [.Subscript (.Name x p1) (.Name y p2) t1, .Subscript (.Name x p3) (.Name z p4) t2] kk tp] e X.env = pure none := by rfl)
    (h1 : (assignEach [.Tuple [.Subscript (.Name x p1) (.Name y p2) t1, .Subscript (.Name x p3) (.Name z p4) t2] kk tp] X.env).map (·.2) = [assign (.Tuple [.Subscript (.Name x p1) (.Name y p2) t1, .Subscript (.Name x p3) (.Name z p4) t2] kk tp) X.env] := by rfl)
    (h2 : (assignEach [.Subscript (.Name x p1) (.Name y p2) t1, .Subscript (.Name x p3) (.Name z p4) t2] X.env).map (·.2) = assign (.Subscript (.Name x p1) (.Name y p2) t1) X.env :: (assignEach [.Subscript (.Name x p3) (.Name z p4) t2] X.env).map (·.2) := by rfl)
    (h3 : (assignEach [.Subscript (.Name x p3) (.Name z p4) t2] X.env).map (·.2) = assign (.Subscript (.Name x p3) (.Name z p4) t2) X.env :: (assignEach [] X.env).map (·.2) := by rfl)
    (hn : (assignEach [.Subscript (.Name x p1) (.Name y p2) t1, .Subscript (.Name x p3) (.Name z p4) t2] X.env).length = 2 := by rfl) (hst : (assignEach [.Subscript (.Name x p1) (.Name y p2) t1, .Subscript (.Name x p3) (.Name z p4) t2] X.env).findIdx? (·.1) = none := by rfl) :
    PSD cs X (.Assign [.Tuple [.Subscript (.Name x p1) (.Name y p2) t1, .Subscript (.Name x p3) (.Name z p4) t2] kk tp] e pos) (mSwap i ji jj m) := by
  obtain ⟨te, a1, a2⟩ := h.ex
  refine ⟨_, ps_asg a1 (pg_tup hc (pgs_cons (pg_sub (pe_var hN hv hd hcd) (pe_var hNi hvy hdy hcdy) set_list ha1) (pgs_cons (pg_sub (pe_var hN hv hd hcd) (pe_var hNj hvz hdz hcdz) set_list ha2) pgs_nil h3) h2) hn hst) hs hw h1, fun ap H0 B0 B σ env H p E o env' p' k hm q => ?_⟩
  obtain ⟨d, q1, e1, e2⟩ := bindM_some hm
  obtain ⟨ds, g⟩ : ∃ ds, env[i]? = some (.own ds) := by
    rcases g : env[i]? with _ | _ | _ | ds | _
    · rw [g] at e2; cases e2
    · rw [g] at e2; cases e2
    · rw [g] at e2; cases e2
    · exact ⟨ds, rfl⟩
    · rw [g] at e2; cases e2
  rw [g] at e2
  obtain ⟨n, gi⟩ : ∃ n, env[ji]? = some (.val (.int n)) := by
    rcases gi : env[ji]? with _ | _ | d' | ds | _
    · rw [gi] at e2; cases e2
    · rw [gi] at e2; cases e2
    · rw [gi] at e2
      cases d' <;> first | (cases e2; done) | skip
      rename_i n
      exact ⟨n, rfl⟩
    · rw [gi] at e2; cases e2
    · rw [gi] at e2; cases e2
  rw [gi] at e2
  obtain ⟨l, gj⟩ : ∃ n, env[jj]? = some (.val (.int n)) := by
    rcases gj : env[jj]? with _ | _ | d' | ds | _
    · rw [gj] at e2; cases e2
    · rw [gj] at e2; cases e2
    · rw [gj] at e2
      cases d' <;> first | (cases e2; done) | skip
      rename_i n
      exact ⟨n, rfl⟩
    · rw [gj] at e2; cases e2
    · rw [gj] at e2; cases e2
  rw [gj] at e2
  obtain ⟨x', y', rfl⟩ : ∃ x y, d = .tup [x, y] := by
    cases d <;> first | (cases e2; done) | skip
    rename_i ws
    rcases ws with _ | ⟨x', _ | ⟨y', _ | ⟨z', ws⟩⟩⟩
    · cases e2
    · cases e2
    · exact ⟨x', y', rfl⟩
    · cases e2
  replace e2 : (match ixN ds.length n, ixN ds.length l with
    | some k1, some k2 => (retM (Out.nx, env.set i (SV.own ((ds.set k1 x').set k2 y'))) : Mo (Out × Env'))
    | _, _ => failM) q1 = some ((o, env'), p') := e2
  rcases z1 : ixN ds.length n with _ | k1
  · rw [z1] at e2; cases e2
  rcases z2 : ixN ds.length l with _ | k2
  · rw [z1, z2] at e2; cases e2
  rw [z1, z2] at e2
  cases e2
  obtain ⟨t, xs, g1, g2, g3, g4⟩ := k.sl i _ g
  have nap : t ≠ ap := fun z => k.hap (z ▸ k.ownNew i ds t g g1)
  obtain ⟨vi, i1, i2⟩ := k.sl ji _ gi
  obtain ⟨vj, j1, j2⟩ := k.sl jj _ gj
  simp only [Rep] at i2 j2
  subst i2 j2
  refine a2 ap H0 B0 B σ env H p _ _ p' k e1 fun B1 H1 v n1 hp1 r1 => ?_
  have kk1 := k.nxt n1 hp1
  simp only [Rep] at r1
  obtain ⟨u, ws, rfl, u1, u2⟩ := r1
  simp only [Reps] at u2
  obtain ⟨w1, _, rfl, r2, w2, _, rfl, r3, rfl⟩ := u2
  have hh : H1 t = some (.lst xs) := n1.fr _ _ g3 nap
  refine ⟨u, [w1, w2], rfl, Evl.ex_t kk1.bh u1, rfl, w1, [w2], rfl, .ref t, g1, .int n, i1, t, xs, n, k1, rfl, rfl, hh, by rw [g4.length]; exact z1, ?_⟩
  have kk2 := kk1.mut g g1 (Reps.set r2 k1 (g4.mono n1.bb))
  have g5 : (env.set i (.own (ds.set k1 x')))[i]? = some (.own (ds.set k1 x')) := List.getElem?_set_self (List.getElem?_eq_some_iff.mp g).1
  refine ⟨w2, [], rfl, .ref t, g1, .int l, j1, t, xs.set k1 w1, l, k2, rfl, rfl, upd_same, by rw [List.length_set, g4.length]; exact z2, rfl, ?_⟩
  have kk3 := kk2.mut g5 g1 (Reps.set r3 k2 (Reps.set r2 k1 (g4.mono n1.bb)))
  rw [List.set_set] at kk3
  exact q B1 σ _ n1.bb kk3
end
end DL
end

section
set_option Elab.async false
set_option linter.all false
set_option maxRecDepth 100000
set_option maxHeartbeats 4000000
/-! DL: != between two instances. -/
namespace DL
open PySem PySem.Spec PyProof.Rows L2
open Evl (Ex)
/-- a class without an own != -/
def neB (K : PySem.W.Frag) (C : Addr) : Bool := He.eqO (PySem.W.findIn K (.ref C) "__ne__") (some (some (.builtin "object.__ne__"))) && ob (PySem.W.mroIn K C (.type "object")) true
def tNe (x : Str) : Fr' → Bool := fun K => neB K (He.ga K x)
theorem neB_ok {K : PySem.W.Frag} {C : Addr} (h : neB K C = true) : PySem.W.findIn K (.ref C) "__ne__" = some (some (.builtin "object.__ne__")) ∧ PySem.W.mroIn K C (.type "object") = some true := by
  unfold neB at h
  rw [Bool.and_eq_true] at h
  exact ⟨He.eqO_ok h.1, of_decide_eq_true h.2⟩
def neAll (K : Fr') (l : List (Addr × List Str)) : Bool := l.all fun p => neB K p.1
theorem neAll_ok {K : Fr'} {l : List (Addr × List Str)} (h : neAll K l = true) : ∀ c C fn, csL l c = some (C, fn) → neB K C = true := fun c C fn e => by
  unfold neAll at h
  rw [List.all_eq_true] at h
  exact h (C, fn) (List.mem_of_getElem? e)
def dNeI (u : Nat → List D → List D → Option Bool) (ne : Bool) : D → D → Mo D := fun x y => match ne, x, y with
  | true, .ins c fs, .ins c' gs => if c = c' then match u c fs gs with
    | some b => retM (.bl (!b))
    | none => failM else failM
  | _, _, _ => failM
section
variable {X : Cx} {cs : CT}
def rNeI (X : Cx) (cs : CT) (u : Nat → List D → List D → Option Bool) (ne : Bool) : R2 := fun v w H Q =>
  ∃ ap B p c fs gs b, ne = true ∧ Ex B H ∧ PotAt ap H p ∧ B ap = none ∧ Rep X.K cs ap B (.ins c fs) v ∧ Rep X.K cs ap B (.ins c gs) w ∧ u c fs gs = some b ∧
    ∀ B' H', Nxt ap B H B' H' → PotAt ap H' p → Q (.bl (!b)) H'
theorem opR_neI {k : Nat} {u : Nat → List D → List D → Option Bool} (U : UEq X cs k u) (hne : ∀ c C fn, cs c = some (C, fn) → neB X.K C = true) (hr : Room (k + 1) X.A) (ne : Bool) : OpR X (compareOp (DQ.opC ne)) (rNeI X cs u ne) := by
  intro pins s σ H v w v' w' Q I rv rw' h
  obtain ⟨ap, B, p, c, fs, gs, b, rfl, e, hp, hb, rx, ry, hq, q⟩ := h
  have sb0 : Sub X (k + 1) X.A := ⟨hr, rfl⟩
  have sb : Sub X k X.A.in1 := sb0.in1
  obtain ⟨C, fn, f', fd, ps, fm, T, hs, hf, F, hbd, hfm⟩ := U.of c fs gs b hq
  obtain ⟨n1, n2⟩ := neB_ok (hne _ _ _ T.at_)
  obtain ⟨a', dx, fs', rfl, g1, g2, g3⟩ := rep_ins T rx
  obtain ⟨b', dy, gs', rfl, k1, k2, k3⟩ := rep_ins T ry
  cases rv
  cases rw'
  obtain ⟨mA, J, _⟩ := ins_get I.hok (e _ _ g1)
  obtain ⟨mB, J', _⟩ := ins_get I.hok (e _ _ k1)
  obtain ⟨od, J, _⟩ := J.look
  obtain ⟨od', J', _⟩ := J'.look
  obtain ⟨m, hF⟩ := I.fr
  show wpAny (model X.prog X.w) X.A (richCompare .NotEq (.ref a') (.ref b')) (EP X pins σ Q) X.xe s
  refine PySem.W.cmpNe_K (tb := .ref C) sb.room.units0 hF I.ok.mod.kin J J'.type (by simp [PySem.W.notFirst]) n1 n2 hs hf ?_
  have hsp : spD X.K cs 2 fm [.ref a', .ref b'] H (fun v H' => v = .bl b ∧ ∃ B', Nxt ap B H B' H' ∧ PotAt ap H' p) E0 := ⟨ap, B, _, p, _, p, rfl, e, hp, hb, reps_cons rx (reps_cons ry reps_nil), hfm p, fun B' H' v n hp' r' => by
    simp only [Rep] at r'
    exact ⟨r', B', n, hp'⟩⟩
  have e0 : Env0 X.prog X.w X.K X.mg X.base X.A.in1 X.stack s H := by
    have z := I.env0
    exact ⟨by rw [sb.fr]; exact z.frames, z.mod, z.bs, z.bsz, z.funs, z.frf, z.hok, z.bare⟩
  have hl := F.len _ _ _ _ hsp
  have r2 : Vals [V.ref a', V.ref b'] [Value.ref a', Value.ref b'] := .cons rfl (.cons rfl .nil)
  refine wpAny_call (codeAny_mono (F.run X.A.in1 X.stack s H ⟨[.ref a', .ref b'], []⟩ [.ref a', .ref b'] [.ref a', .ref b'] _ E0 sb.room (fun z => nomatch z) e0 (by
    have := hbd s [.ref a', .ref b'] I.kIn (by simpa using hl)
    simpa using this) r2 hsp) fun r s' hq => ?_)
  cases r with
  | error e => exact hq.elim
  | ok fl =>
    cases fl with
    | ret w =>
      obtain ⟨z, H', I', rz, ez, B', n', hp'⟩ := I.after hq
      subst ez
      cases rz
      exact ⟨b, rfl, .bl (!b), H', I', rfl, q B' H' n' hp'⟩
    | next => exact hq.elim
    | brk => exact hq.elim
    | cont => exact hq.elim
theorem opD_neI {k : Nat} {u : Nat → List D → List D → Option Bool} (U : UEq X cs k u) (hne : ∀ c C fn, cs c = some (C, fn) → neB X.K C = true) (hr : Room (k + 1) X.A) (ne : Bool) : OpD cs X (compareOp (DQ.opC ne)) (dNeI u ne) := by
  refine ⟨_, opR_neI U hne hr ne, fun ap B H p x y v w Q d p' e hp hb rx ry hm q => ?_⟩
  unfold dNeI at hm
  split at hm
  · rename_i c fs c' gs
    split at hm
    · rename_i hc
      subst hc
      rcases hb' : u c fs gs with _ | r
      · rw [hb'] at hm; cases hm
      · rw [hb'] at hm
        cases hm
        exact ⟨ap, B, p, c, fs, gs, r, rfl, e, hp, hb, rx, ry, hb', fun B' H' n' hp' => q B' H' _ n' hp' (by simp only [Rep])⟩
    · cases hm
  · cases hm
end
end DL
end

section
set_option Elab.async false
set_option linter.all false
set_option maxRecDepth 100000
set_option maxHeartbeats 4000000
/-! DL: own lists lent to a look, letters of a text, count, pop, three stores at once. -/
namespace DL
open PySem PySem.Spec PyProof.Rows L2
open Evl (Ex)
mutual
/-- no list within -/
def LF : D → Bool
  | .lst _ => false
  | .tup ds => LFs ds
  | .ins _ ds => LFs ds
  | _ => true
def LFs : List D → Bool
  | [] => true
  | d :: ds => LF d && LFs ds
end
def borOk (xs : List D) : D → Bool
  | .lst ds => LFs ds && (ds.length != xs.length)
  | d => LF d
def mBor (i : Nat) (m : Env' → Mo D) : Env' → Mo D := fun env => match env[i]? with
  | some (.own xs) => bindM (m (env.set i (.val (.lst xs)))) fun d => if borOk xs d = true then retM d else failM
  | _ => m env
def mBorT (i : Nat) (m : Env' → Mo Bool) : Env' → Mo Bool := fun env => match env[i]? with
  | some (.own xs) => m (env.set i (.val (.lst xs)))
  | _ => m env
/-- all that B knows but at a -/
def less (B : Hp) (a : Addr) : Hp := fun x => if x = a then none else B x
theorem less_ne {B : Hp} {a x : Addr} (h : x ≠ a) : less B a x = B x := if_neg h
theorem sqT_less {K : PySem.W.Frag} {B : Hp} {a b : Addr} {ys xs : List V} (h : SqT K B b ys) (ha : B a = some (.lst xs)) : SqT K (less B a) b ys := by
  rcases h with (h | ⟨o, h⟩) | h
  · have e : b ≠ a := fun z => by rw [z, ha] at h; cases h
    exact .inl (.inl (by rw [less_ne e]; exact h))
  · have e : b ≠ a := fun z => by rw [z, ha] at h; cases h
    exact .inl (.inr ⟨o, by rw [less_ne e]; exact h⟩)
  · exact .inr h
theorem strip_aux {K : PySem.W.Frag} {cs : CT} {ap a : Addr} {B : Hp} {xs : List V} (ha : B a = some (.lst xs)) : ∀ d v, LF d = true → Rep K cs ap B d v → Rep K cs ap (less B a) d v := by
  intro d
  refine D.rec (motive_1 := fun d => ∀ v, LF d = true → Rep K cs ap B d v → Rep K cs ap (less B a) d v) (motive_2 := fun ds => ∀ vs, LFs ds = true → Reps K cs ap B ds vs → Reps K cs ap (less B a) ds vs)
    ?_ ?_ ?_ ?_ ?_ ?_ ?_ ?_ ?_ ?_ ?_ d
  · intro v _ h; simpa only [Rep] using h
  · intro b v _ h; simpa only [Rep] using h
  · intro b v _ h; simpa only [Rep] using h
  · intro b v _ h; simpa only [Rep] using h
  · intro ds ih v l h
    simp [LF] at l
  · intro ds ih v l h
    simp only [LF] at l
    simp only [Rep] at h ⊢
    obtain ⟨b, ys, rfl, h1, h2⟩ := h
    exact ⟨b, ys, rfl, sqT_less h1 ha, ih _ l h2⟩
  · intro c ds ih v l h
    simp only [LF] at l
    simp only [Rep] at h ⊢
    obtain ⟨b, C, fn, dx, fs, rfl, h0, h1, h2, h3⟩ := h
    have e : b ≠ a := fun z => by rw [z, ha] at h1; cases h1
    exact ⟨b, C, fn, dx, fs, rfl, h0, by rw [less_ne e]; exact h1, h2, ih _ l h3⟩
  · intro v _ h; simpa only [Rep] using h
  · intro v _ h
    simp only [Rep] at h ⊢
    obtain ⟨b, rfl, h1⟩ := h
    have e : b ≠ a := fun z => by rw [z, ha] at h1; cases h1
    exact ⟨b, rfl, by rw [less_ne e]; exact h1⟩
  · intro vs _ h; simpa only [Reps] using h
  · intro d ds i1 i2 vs l h
    simp only [LFs, Bool.and_eq_true] at l
    simp only [Reps] at h ⊢
    obtain ⟨x, r, rfl, h1, h2⟩ := h
    exact ⟨x, r, rfl, i1 _ l.1 h1, i2 _ l.2 h2⟩
theorem strips {K : PySem.W.Frag} {cs : CT} {ap a : Addr} {B : Hp} {xs : List V} (ha : B a = some (.lst xs)) : ∀ ds vs, LFs ds = true → Reps K cs ap B ds vs → Reps K cs ap (less B a) ds vs
  | [], vs, _, h => by simpa only [Reps] using h
  | d :: ds, vs, l, h => by
    simp only [LFs, Bool.and_eq_true] at l
    simp only [Reps] at h ⊢
    obtain ⟨x, r, rfl, h1, h2⟩ := h
    exact ⟨x, r, rfl, strip_aux ha d x l.1 h1, strips ha ds r l.2 h2⟩
theorem nxt_less {ap a : Addr} {B H B2 H2 : Hp} {xs : List V} (hb : B a = none) (n : Nxt ap (upd B a (.lst xs)) H B2 H2) : Nxt ap B H (less B2 a) H2 := by
  refine ⟨fun x o h => ?_, fun x o h => ?_, fun x h h' => ?_, n.fr, n.nn⟩
  · have e : x ≠ a := fun z => by rw [z, hb] at h; cases h
    rw [less_ne e]
    exact n.bb x o (by rw [upd_ne e]; exact h)
  · by_cases e : x = a
    · unfold less at h; rw [if_pos e] at h; cases h
    · rw [less_ne e] at h; exact n.bh x o h
  · by_cases e : x = a
    · unfold less; rw [if_pos e]
    · rw [less_ne e]; exact n.nw x h (by rw [upd_ne e]; exact h')
section
variable {cs : CT} {X : Cx} {e a b c : Expr} {es : List Expr} {m ma mb mc : Env' → Mo D} {oa ob : Env' → Mo (List D)} {pos : Pos}
/-- an own list lent: known for a while -/
theorem Ok.lend {K : PySem.W.Frag} {ap : Addr} {H0 B0 B H : Hp} {σ : L2.St} {env : Env'} {p : Pt} (k : Ok K cs ap H0 B0 B σ env H p) {i : Nat} {ds : List D} (h : env[i]? = some (.own ds)) :
    ∃ a xs, B a = none ∧ Ok K cs ap H0 B0 (upd B a (.lst xs)) σ (env.set i (.val (.lst ds))) H p ∧ xs.length = ds.length := by
  obtain ⟨a, xs, h1, h2, h3, h4⟩ := k.sl i _ h
  obtain ⟨e1, k1⟩ := k.know h rfl h1 h2 h3
  have k2 := k1.setd (i := i) (sv := .val (.lst ds)) (fun _ => ⟨_, h1, by simp only [Rep]; exact ⟨a, xs, rfl, upd_same, h4.mono e1⟩⟩) rfl
  rw [List.set_set] at k2
  exact ⟨a, xs, h2, k2, h4.length⟩
theorem p_bor (i : Nat) (h : PED cs X e m) : PED cs X e (mBor i m) := by
  obtain ⟨te, h1, h2⟩ := h.ex
  refine ⟨te, h1, fun ap H0 B0 B σ env H p Q d p' k hm q => ?_⟩
  unfold mBor at hm
  rcases g : env[i]? with _ | _ | d' | xs | _
  · rw [g] at hm; exact h2 ap H0 B0 B σ env H p Q d p' k hm q
  · rw [g] at hm; exact h2 ap H0 B0 B σ env H p Q d p' k hm q
  · rw [g] at hm; exact h2 ap H0 B0 B σ env H p Q d p' k hm q
  · rw [g] at hm
    obtain ⟨d1, p1, e1, e2⟩ := bindM_some hm
    split at e2
    case isFalse => cases e2
    rename_i hok
    cases e2
    obtain ⟨a, ys, hb, k2, hl⟩ := k.lend g
    refine h2 ap H0 B0 _ σ _ H p Q d p' k2 e1 fun B2 H2 v n hp r => ?_
    have ha2 : B2 a = some (.lst ys) := n.bb a _ upd_same
    refine q (less B2 a) H2 v (nxt_less hb n) hp ?_
    cases d with
    | lst es =>
      simp only [borOk, Bool.and_eq_true, bne_iff_ne, ne_eq] at hok
      simp only [Rep] at r ⊢
      obtain ⟨b, zs, rfl, r1, r2⟩ := r
      have e : b ≠ a := fun z => by
        rw [z, ha2] at r1
        cases r1
        exact hok.2 (by rw [← r2.length, hl])
      exact ⟨b, zs, rfl, by rw [less_ne e]; exact r1, strips ha2 _ _ hok.1 r2⟩
    | _ => exact strip_aux ha2 _ _ hok r
  · rw [g] at hm; exact h2 ap H0 B0 B σ env H p Q d p' k hm q
theorem pt_bor (i : Nat) {m : Env' → Mo Bool} (h : PTD cs X e m) : PTD cs X e (mBorT i m) := by
  obtain ⟨te, h1, h2⟩ := h.ex
  refine ⟨te, h1, fun ap H0 B0 B σ env H p Q d p' k hm q => ?_⟩
  unfold mBorT at hm
  rcases g : env[i]? with _ | _ | d' | xs | _
  · rw [g] at hm; exact h2 ap H0 B0 B σ env H p Q d p' k hm q
  · rw [g] at hm; exact h2 ap H0 B0 B σ env H p Q d p' k hm q
  · rw [g] at hm; exact h2 ap H0 B0 B σ env H p Q d p' k hm q
  · rw [g] at hm
    obtain ⟨a, ys, hb, k2, hl⟩ := k.lend g
    exact h2 ap H0 B0 _ σ _ H p Q d p' k2 hm fun B2 H2 n hp => q (less B2 a) H2 (nxt_less hb n) hp
  · rw [g] at hm; exact h2 ap H0 B0 B σ env H p Q d p' k hm q
/-! ### a letter of a text -/
def atS (x y : D) : Mo D := match x, y with
  | .str z, .int i => if z.length ≤ 100000 then match atI z.cps.toList i with
    | some c => retM (.str ⟨#[c]⟩)
    | none => failM
    else failM
  | _, _ => failM
theorem p_ixS (ha : PED cs X a ma) (hb : PED cs X b mb) (hs : PlainIx b := by exact fun _ _ => rfl) : PED cs X (.Subscript a b pos) (mBin atS ma mb) := by
  obtain ⟨ta, a1, a2⟩ := ha.ex
  obtain ⟨tb, b1, b2⟩ := hb.ex
  refine ⟨_, pe_ix ix_seq a1 b1 hs, bin_ev a2 b2 fun ap B H p x y v u Q d p' e hp hbp rx ry hm q => ?_⟩
  unfold atS at hm
  split at hm
  · rename_i z i
    split at hm
    case isFalse => cases hm
    rename_i hz
    rcases hc : atI z.cps.toList i with _ | c
    · rw [hc] at hm; cases hm
    · rw [hc] at hm
      cases hm
      simp only [Rep] at rx ry
      exact .inr (.inr ⟨z, i, c, rx, ry, Nat.le_trans hz (by rw [sizeLine_eq]; decide), hc, q B H _ (Nxt.refl e) hp (by simp only [Rep])⟩)
  · cases hm
/-! ### xs.count(n), ints -/
theorem intsAre_of : ∀ {ns : List Int} {us : List Value}, Vals (ns.map V.int) us → IntsAre us ns
  | [], _, h => by cases h; exact .nil
  | n :: ns, _, h => by
    cases h with
    | cons r rr =>
      obtain ⟨t, rfl⟩ := r
      exact .cons _ _ (intsAre_of rr)
def rCountI (K : PySem.W.Frag) : V → List V → Hp → VK → Prop := fun x xs H Q => ∃ (a : Addr) (ns : List Int) (k : Int), x = V.ref a ∧ xs = [.int k] ∧ SqL K H a (ns.map V.int) ∧ Q (.int (ns.count k : Nat)) H
theorem mt_countI : MtR X "list.count" (rCountI X.K) := by
  intro pins s σ H x xs v us Q I rx rxs h
  obtain ⟨a, ns, k, rfl, rfl, hs, q⟩ := h
  cases rx
  obtain ⟨u, rfl, ru⟩ := rxs.one
  obtain ⟨t, rfl⟩ := ru
  obtain ⟨its, rv, ⟨o, n, ho, hc, hdn, hd⟩, hlen⟩ := I.list hs
  exact count_list_ints ⟨o, ho, hc, n, hd⟩ (intsAre_of rv) ⟨.int (ns.count k : Nat), H, I.tok _, ⟨_, rfl⟩, q⟩
def dCount (x y : D) : Mo D := match x, y with
  | .lst ds, .int k => match intsD ds with
    | some ns => retM (.int (ns.count k : Nat))
    | none => failM
  | _, _ => failM
theorem p_count {apos cpos : Pos} (ha : PED cs X a ma) (hb : PED cs X b mb) (hs : starEach [b] X.env = (false, eval b X.env) :: starEach [] X.env := by rfl)
    (hbase : attributeBase a "count" X.env (eval a X.env) = eval a X.env := by rfl) (hline : (apos.endLine == cpos.line) = true := by rfl)
    (hfew : ((((backTo cpos (starEach [b] X.env)).all fun x => !x.fst) && (backToKw cpos (keywordEach [] X.env)).all fun x => x.fst.isSome) && decide (([b].length + ([] : List Keyword).length + if ([] : List Keyword).isEmpty = true then 0 else 1) < 30)) = true := by rfl) :
    PED cs X (.Call (.Attribute a "count" apos) [b] [] cpos) (mBin dCount ma mb) := by
  obtain ⟨ta, a1, a2⟩ := ha.ex
  obtain ⟨tb, b1, b2⟩ := hb.ex
  refine ⟨_, pe_bm PySem.F.plainAttrs_list PySem.F.slot_list_count PySem.F.type_list_count mt_countI a1 (L2.pa_cons b1 L2.pa_nil hs) (hbase := hbase) (hs := hs) (hfew := hfew) (hline := hline), fun ap H0 B0 B σ env H p Q d p' k hm q => ?_⟩
  obtain ⟨x, p1, e1, e2⟩ := bindM_some hm
  obtain ⟨y, p2, e3, e4⟩ := bindM_some e2
  unfold dCount at e4
  split at e4
  · rename_i ds kk
    rcases z : intsD ds with _ | ns
    · rw [z] at e4; cases e4
    · rw [z] at e4
      cases e4
      refine a2 ap H0 B0 B σ env H p _ _ p1 k e1 fun B1 H1 v n1 hp1 r1 => ?_
      have k1 := k.nxt n1 hp1
      simp only [Rep] at r1
      obtain ⟨t, xs, rfl, h1, h2⟩ := r1
      refine ⟨.inl ⟨rfl, xs, SqL.of (k1.bh _ _ h1)⟩, b2 ap H0 B0 B1 σ env H1 p1 _ _ p' k1 e3 fun B2 H2 u n2 hp2 r2 => ?_⟩
      simp only [Rep] at r2
      refine ⟨t, ns, kk, rfl, by rw [r2], SqL.of (by rw [← repsI z h2]; exact n2.bh _ _ (n2.bb _ _ h1)), q B2 H2 _ (n1.trans n2) hp2 (by simp only [Rep])⟩
  · cases e4
/-! ### xs.pop(), what it gives is dropped -/
def mPopD (i : Nat) : MS := fun env => match env[i]? with
  | some (.own ds) => if ds ≠ [] then retM (.nx, env.set i (.own ds.dropLast)) else failM
  | _ => failM
theorem Reps.dropLast {K : PySem.W.Frag} {ap : Addr} {B : Hp} {ds : List D} {xs : List V} (r : Reps K cs ap B ds xs) : Reps K cs ap B ds.dropLast xs.dropLast := by
  rw [List.dropLast_eq_take, List.dropLast_eq_take, r.length]
  exact r.take _
theorem s_popD (i : Nat) {x : Str} {p1 apos cpos : Pos} (hN : X.N[i]? = some x := by rfl) (hv : Vis X.env.scope x := by first | exact Or.inl rfl | exact Or.inr (Or.inl rfl) | exact Or.inr (Or.inr rfl)) (hd : (x == ("__debug__" : Str)) = false := by decide)
    (hcd : (x == ("__classdict__" : Str)) = false := by decide) (hsw : swapsWith (.Call (.Attribute (.Name x p1) "pop" apos) [] [] cpos) none pos.line X.env = pure false := by rfl)
    (hbase : attributeBase (.Name x p1) "pop" X.env (eval (.Name x p1) X.env) = eval (.Name x p1) X.env := by rfl) (hline : (apos.endLine == cpos.line) = true := by rfl) :
    PSD cs X (.Expr (.Call (.Attribute (.Name x p1) "pop" apos) [] [] cpos) pos) (mPopD i) := by
  refine ⟨_, ps_expr (pe_bm0 PySem.F.plainAttrs_list PySem.F.slot_list_pop PySem.F.type_list_pop mt_pop (pe_var hN hv hd hcd) (hbase := hbase) (hline := hline)) hsw, fun ap H0 B0 B σ env H p E o env' p' k hm q => ?_⟩
  unfold mPopD at hm
  rcases g : env[i]? with _ | _ | _ | ds | _
  · rw [g] at hm; cases hm
  · rw [g] at hm; cases hm
  · rw [g] at hm; cases hm
  · rw [g] at hm
    dsimp only at hm
    split at hm
    case isFalse => cases hm
    rename_i hz
    cases hm
    obtain ⟨t, xs, g1, g2, g3, g4⟩ := k.sl i _ g
    have hl := g4.length
    have hne : xs ≠ [] := fun z => hz (by rw [z] at hl; exact List.length_eq_zero_iff.mp hl.symm)
    refine ⟨.ref t, g1, .inl ⟨rfl, xs, SqL.of g3⟩, t, xs, xs.getLast hne, rfl, rfl, g3, ?_, ?_⟩
    · rw [← List.getLast?_eq_getElem?, List.getLast?_eq_some_getLast hne]
    · exact q B σ _ (Ex.refl _) (k.mut g g1 g4.dropLast)
  · rw [g] at hm; cases hm
/-! ### xs[e], xs[f], xs[g] = .. -/
def stO (i : Nat) (d n : D) (env : Env') : Option Env' := match env[i]?, n with
  | some (.own ds), .int n => match ixN ds.length n with
    | some j => some (env.set i (.own (ds.set j d)))
    | none => none
  | _, _ => none
def mSt (i : Nat) (a : Env' → Mo D) (d : D) (k : MS) : MS := fun env => bindM (a env) fun n => match stO i d n env with
  | some env1 => k env1
  | none => failM
def mSet3 (i : Nat) (m a b c : Env' → Mo D) : MS := fun env => bindM (m env) fun t => match t with
  | .tup [x, y, z] => mSt i a x (mSt i b y (mSt i c z fun e => retM (.nx, e))) env
  | _ => failM
theorem sub_st {ti : TE} {ap : Addr} {H0 B0 B H : Hp} {σ : L2.St} {env : Env'} {p : Pt} {d : D} {v : V} {i : Nat} {kk : MS} {oe : Out × Env'} {p' : Pt} {Q : L2.St → Hp → Prop} (h2 : EvE X.K cs ti ma) (k : Ok X.K cs ap H0 B0 B σ env H p) (r : Rep X.K cs ap B d v)
    (hm : mSt i ma d kk env p = some (oe, p')) (q : ∀ B1 H1 env1 p1, Ex B B1 → Ok X.K cs ap H0 B0 B1 σ env1 H1 p1 → kk env1 p1 = some (oe, p') → Q σ H1) : gSub (tVar i) ti rSetL v σ H Q := by
  unfold mSt at hm
  obtain ⟨n, p1, e1, e2⟩ := bindM_some hm
  unfold stO at e2
  rcases g : env[i]? with _ | _ | _ | ds | _
  · rw [g] at e2; cases e2
  · rw [g] at e2; cases e2
  · rw [g] at e2; cases e2
  · rw [g] at e2
    cases n <;> first | (cases e2; done) | skip
    rename_i nn
    dsimp only at e2
    rcases z : ixN ds.length nn with _ | j
    · rw [z] at e2; cases e2
    · rw [z] at e2
      dsimp only at e2
      obtain ⟨t, xs, g1, g2, g3, g4⟩ := k.sl i _ g
      have nap : t ≠ ap := fun z => k.hap (z ▸ k.ownNew i ds t g g1)
      refine ⟨.ref t, g1, h2 ap H0 B0 B σ env H p _ _ p1 k e1 fun B2 H2 u n2 hp2 r2 => ?_⟩
      have k2 := k.nxt n2 hp2
      simp only [Rep] at r2
      have hh : H2 t = some (.lst xs) := n2.fr _ _ g3 nap
      refine ⟨t, xs, nn, j, rfl, r2, hh, by rw [g4.length]; exact z, ?_⟩
      exact q B2 _ _ p1 n2.bb (k2.mut g g1 (Reps.set (r.mono n2.bb) j (g4.mono n2.bb))) e2
  · rw [g] at e2; cases e2
theorem s_set3 (i : Nat) {x : Str} {pa pb pc t1 t2 t3 tp : Pos} {kk} (hc : X.calm = true) (h : PED cs X e m) (ha : PED cs X a ma) (hb : PED cs X b mb) (hcc : PED cs X c mc) (hN : X.N[i]? = some x := by rfl)
    (hv : Vis X.env.scope x := by first | exact Or.inl rfl | exact Or.inr (Or.inl rfl) | exact Or.inr (Or.inr rfl))
    (hd : (x == ("__debug__" : Str)) = false := by decide) (hcd : (x == ("__classdict__" : Str)) = false := by decide)
    (ha1 : ∀ v, assign (.Subscript (.Name x pa) a t1) X.env v = (do let ov ← holding [v] (eval (.Name x pa) X.env); let iv ← holding [v, ov] (eval a X.env); standAt t1; holding [v, ov, iv] (setItem ov iv v); release [v, ov, iv] []) := by intro _; rfl)
    (ha2 : ∀ v, assign (.Subscript (.Name x pb) b t2) X.env v = (do let ov ← holding [v] (eval (.Name x pb) X.env); let iv ← holding [v, ov] (eval b X.env); standAt t2; holding [v, ov, iv] (setItem ov iv v); release [v, ov, iv] []) := by intro _; rfl)
    (ha3 : ∀ v, assign (.Subscript (.Name x pc) c t3) X.env v = (do let ov ← holding [v] (eval (.Name x pc) X.env); let iv ← holding [v, ov] (eval c X.env); standAt t3; holding [v, ov, iv] (setItem ov iv v); release [v, ov, iv] []) := by intro _; rfl)
    (hs : swapsWithSole [.Tuple [.Subscript (.Name x pa) a t1, .Subscript (.Name x pb) b t2, .Subscript (.Name x pc) c t3] kk tp] e pos.line X.env = pure false := by rfl) (hw : swappedStores [.Tuple [.Subscript (.Name x pa) a t1, .Subscript (.Name x pb) b t2, .Subscript (.Name x pc) c t3] kk tp] e X.env = pure none := by rfl)
    (h1 : (assignEach [.Tuple [.Subscript (.Name x pa) a t1, .Subscript (.Name x pb) b t2, .Subscript (.Name x pc) c t3] kk tp] X.env).map (·.2) = [assign (.Tuple [.Subscript (.Name x pa) a t1, .Subscript (.Name x pb) b t2, .Subscript (.Name x pc) c t3] kk tp) X.env] := by rfl)
    (h2 : (assignEach [.Subscript (.Name x pa) a t1, .Subscript (.Name x pb) b t2, .Subscript (.Name x pc) c t3] X.env).map (·.2) = assign (.Subscript (.Name x pa) a t1) X.env :: (assignEach [.Subscript (.Name x pb) b t2, .Subscript (.Name x pc) c t3] X.env).map (·.2) := by rfl)
    (h3 : (assignEach [.Subscript (.Name x pb) b t2, .Subscript (.Name x pc) c t3] X.env).map (·.2) = assign (.Subscript (.Name x pb) b t2) X.env :: (assignEach [.Subscript (.Name x pc) c t3] X.env).map (·.2) := by rfl)
    (h4 : (assignEach [.Subscript (.Name x pc) c t3] X.env).map (·.2) = assign (.Subscript (.Name x pc) c t3) X.env :: (assignEach [] X.env).map (·.2) := by rfl)
    (hn : (assignEach [.Subscript (.Name x pa) a t1, .Subscript (.Name x pb) b t2, .Subscript (.Name x pc) c t3] X.env).length = 3 := by rfl) (hst : (assignEach [.Subscript (.Name x pa) a t1, .Subscript (.Name x pb) b t2, .Subscript (.Name x pc) c t3] X.env).findIdx? (·.1) = none := by rfl) :
    PSD cs X (.Assign [.Tuple [.Subscript (.Name x pa) a t1, .Subscript (.Name x pb) b t2, .Subscript (.Name x pc) c t3] kk tp] e pos) (mSet3 i m ma mb mc) := by
  obtain ⟨te, w1, w2⟩ := h.ex
  obtain ⟨ta, a1, a2⟩ := ha.ex
  obtain ⟨tb, b1, b2⟩ := hb.ex
  obtain ⟨tc, c1, c2⟩ := hcc.ex
  refine ⟨_, ps_asg w1 (pg_tup hc (pgs_cons (pg_sub (pe_var hN hv hd hcd) a1 set_list ha1) (pgs_cons (pg_sub (pe_var hN hv hd hcd) b1 set_list ha2) (pgs_cons (pg_sub (pe_var hN hv hd hcd) c1 set_list ha3) pgs_nil h4) h3) h2) hn hst) hs hw h1, fun ap H0 B0 B σ env H p E o env' p' k hm q => ?_⟩
  obtain ⟨d, q1, e1, e2⟩ := bindM_some hm
  obtain ⟨x', y', z', rfl⟩ : ∃ x y z, d = .tup [x, y, z] := by
    cases d <;> first | (cases e2; done) | skip
    rename_i ws
    rcases ws with _ | ⟨x', _ | ⟨y', _ | ⟨z', _ | ⟨w', ws⟩⟩⟩⟩
    · cases e2
    · cases e2
    · cases e2
    · exact ⟨x', y', z', rfl⟩
    · cases e2
  refine w2 ap H0 B0 B σ env H p _ _ q1 k e1 fun B1 H1 v n1 hp1 r1 => ?_
  have k1 := k.nxt n1 hp1
  simp only [Rep] at r1
  obtain ⟨u, ws, rfl, u1, u2⟩ := r1
  simp only [Reps] at u2
  obtain ⟨v1, _, rfl, r2, v2, _, rfl, r3, v3, _, rfl, r4, rfl⟩ := u2
  refine ⟨u, [v1, v2, v3], rfl, Evl.ex_t k1.bh u1, rfl, v1, [v2, v3], rfl, ?_⟩
  refine sub_st a2 k1 r2 e2 fun B2 H2 env2 p2 x2 k2 m2 => ⟨v2, [v3], rfl, ?_⟩
  refine sub_st b2 k2 (r3.mono x2) m2 fun B3 H3 env3 p3 x3 k3 m3 => ⟨v3, [], rfl, ?_⟩
  refine sub_st c2 k3 (r4.mono (x2.trans x3)) m3 fun B4 H4 env4 p4 x4 k4 m4 => ⟨rfl, ?_⟩
  cases m4
  exact q B4 σ _ (((n1.bb.trans x2).trans x3).trans x4) k4
end
end DL
end

section
set_option Elab.async false
set_option linter.all false
set_option maxRecDepth 100000
set_option maxHeartbeats 4000000
/-! DL: is True, is not True. -/
namespace DL
open PySem PySem.Spec PyProof.Rows L2
open Evl (Ex)
def dIsB (neg : Bool) : D → D → Mo D := fun x y => match x, y with
  | .bl a, .bl b => retM (.bl (decide (a = b) != neg))
  | _, _ => failM
section
variable {cs : CT} {X : Cx}
theorem op_isBD : OpD cs X (compareOp .Is) (dIsB false) := by
  refine ⟨_, op_is_bl, fun ap B H p x y v u Q d p' e hp hb rx ry hm q => ?_⟩
  unfold dIsB at hm
  split at hm
  · rename_i a b
    cases hm
    simp only [Rep] at rx ry
    refine ⟨a, b, rx, ry, ?_⟩
    exact q B H _ (Nxt.refl e) hp (by simp only [Rep]; rw [Bool.bne_false])
  · cases hm
theorem op_notBD : OpD cs X (compareOp .IsNot) (dIsB true) := by
  refine ⟨_, op_isnot_bl, fun ap B H p x y v u Q d p' e hp hb rx ry hm q => ?_⟩
  unfold dIsB at hm
  split at hm
  · rename_i a b
    cases hm
    simp only [Rep] at rx ry
    refine ⟨a, b, rx, ry, ?_⟩
    exact q B H _ (Nxt.refl e) hp (by simp only [Rep]; rw [Bool.bne_true])
  · cases hm
end
end DL
end

section
set_option Elab.async false
set_option linter.all false
set_option maxRecDepth 100000
set_option maxHeartbeats 4000000
/-! DL: a told tree that is spoilt: all of it is new, nothing that is kept reaches it. -/
namespace DL
open PySem PySem.Spec PyProof.Rows L2
open Evl (Ex)

/-- B, and Bf where B knows nothing -/
def uni (B Bf : Hp) : Hp := fun b => match B b with
  | some o => some o
  | none => Bf b
/-- since Hs: what Bf knows is new, or B knows it and it is no list -/
structure Hot (ap : Addr) (Hs B Bf H : Hp) : Prop where
  ff : ∀ b o, Bf b = some o → Hs b = none ∨ (B b = some o ∧ ∀ xs, o ≠ .lst xs)
  bh : Ex Bf H
  fr : ∀ b o, Hs b = some o → b ≠ ap → H b = some o
  nn : ∀ b, Hs b ≠ none → H b ≠ none
/-- a step: Bf grows, what stood stands, lists that stood stay unknown -/
structure NxF (ap : Addr) (Bf H Bf' H' : Hp) : Prop where
  bb : Ex Bf Bf'
  nw : ∀ b xs, H b = some (.lst xs) → Bf b = none → Bf' b = none
  fr : ∀ b o, H b = some o → b ≠ ap → H' b = some o
  nn : ∀ b, H b ≠ none → H' b ≠ none
theorem none_of {α β : Type} {H H' : α → Option β} (nn : ∀ b, H b ≠ none → H' b ≠ none) {b : α} (h : H' b = none) : H b = none := by
  cases z : H b with
  | none => rfl
  | some o => exact absurd h (nn b (by rw [z]; exact fun y => nomatch y))
theorem some_ne {α : Type} {o : Option α} {a : α} (h : o = some a) : o ≠ none := by rw [h]; exact fun y => nomatch y
theorem NxF.refl (ap : Addr) (Bf H : Hp) : NxF ap Bf H Bf H := ⟨Ex.refl _, fun _ _ _ h => h, fun _ _ h _ => h, fun _ h => h⟩
theorem NxF.trans {ap : Addr} {Bf H Bf1 H1 Bf2 H2 : Hp} (hap : ∃ n1 n2, H ap = some (.lst [.int n1, .int n2]) ∧ Bf1 ap = none) (a : NxF ap Bf H Bf1 H1) (b : NxF ap Bf1 H1 Bf2 H2) (hb2 : Bf2 ap = none) : NxF ap Bf H Bf2 H2 := by
  refine ⟨a.bb.trans b.bb, fun x xs h h' => ?_, fun x o h hp => b.fr x o (a.fr x o h hp) hp, fun x h => b.nn x (a.nn x h)⟩
  by_cases e : x = ap
  · rw [e]; exact hb2
  · exact b.nw x xs (a.fr x _ h e) (a.nw x xs h h')

section
variable {K : PySem.W.Frag} {cs : CT} {ap : Addr} {H0 B0 B Hs Bf H : Hp} {σ : L2.St} {env : Env'} {p0 p : Pt}
theorem Hot.start (k : Ok K cs ap H0 B0 B σ env Hs p0) : Hot ap Hs B (fun _ => none) Hs := ⟨fun b o h => (nomatch h), fun b o h => (nomatch h), fun _ _ h _ => h, fun _ h => h⟩
theorem Hot.nap (h : Hot ap Hs B Bf H) (k : Ok K cs ap H0 B0 B σ env Hs p0) : Bf ap = none := by
  cases z : Bf ap with
  | none => rfl
  | some o =>
    rcases h.ff ap o z with e | ⟨e, _⟩
    · have := k.pot; unfold PotAt at this; rw [e] at this; cases this
    · rw [k.bap] at e; cases e
theorem Hot.ok (h : Hot ap Hs B Bf H) (k : Ok K cs ap H0 B0 B σ env Hs p0) (hp : PotAt ap H p) : Ok K cs ap H0 B0 (uni B Bf) σ env H p := by
  refine k.nxt ⟨fun b o e => by unfold uni; rw [e], fun b o e => ?_, fun b h1 h2 => ?_, h.fr, h.nn⟩ hp
  · unfold uni at e
    cases z : B b with
    | some o' =>
      rw [z] at e
      cases e
      exact h.fr b o (k.bh _ _ z) (fun y => by rw [y, k.bap] at z; cases z)
    | none => rw [z] at e; exact h.bh _ _ e
  · unfold uni
    rw [h2]
    cases z : Bf b with
    | none => rfl
    | some o =>
      rcases h.ff b o z with e | ⟨e, _⟩
      · exact absurd e h1
      · rw [h2] at e; cases e
theorem Ok.cold (k : Ok K cs ap H0 B0 B σ env Hs p0) (fr : ∀ b o, Hs b = some o → b ≠ ap → H b = some o) (nn : ∀ b, Hs b ≠ none → H b ≠ none) (hp : PotAt ap H p) : Ok K cs ap H0 B0 B σ env H p :=
  k.nxt ⟨Ex.refl _, fun b o e => fr b o (k.bh _ _ e) (fun y => by rw [y, k.bap] at e; cases e), fun _ _ h => h, fr, nn⟩ hp
/-- Hot after a step that keeps Bf -/
theorem Hot.step {H' : Hp} (h : Hot ap Hs B Bf H) (k : Ok K cs ap H0 B0 B σ env Hs p0) (fr : ∀ b o, H b = some o → b ≠ ap → H' b = some o) (nn : ∀ b, H b ≠ none → H' b ≠ none) : Hot ap Hs B Bf H' :=
  ⟨h.ff, fun b o e => fr b o (h.bh b o e) (fun y => by rw [y, h.nap k] at e; cases e), fun b o e hb => fr b o (h.fr b o e hb) hb, fun b e => nn b (h.nn b e)⟩
end

/-- what has no list in it -/
def scalD : D → Bool
  | .non => true
  | .bl _ => true
  | .int _ => true
  | .str _ => true
  | _ => false
def plainD : D → Bool
  | .tup ds => ds.all scalD
  | d => scalD d
theorem rep_scal {K : PySem.W.Frag} {cs : CT} {ap : Addr} {B B' : Hp} {d : D} {v : V} (h : scalD d = true) (r : Rep K cs ap B d v) : Rep K cs ap B' d v := by
  cases d <;> first | (simp only [Rep] at r ⊢; exact r) | cases h
theorem reps_scal {K : PySem.W.Frag} {cs : CT} {ap : Addr} {B B' : Hp} : ∀ {ds : List D} {vs : List V}, ds.all scalD = true → Reps K cs ap B ds vs → Reps K cs ap B' ds vs
  | [], vs, _, r => by simp only [Reps] at r ⊢; exact r
  | d :: ds, vs, h, r => by
    rw [List.all_cons, Bool.and_eq_true] at h
    simp only [Reps] at r ⊢
    obtain ⟨x, t, e, h1, h2⟩ := r
    exact ⟨x, t, e, rep_scal h.1 h1, reps_scal h.2 h2⟩

section
variable (K : PySem.W.Frag) (cs : CT)
def EvF (te : TE) (m : Env' → Mo D) : Prop := ∀ ap H0 B0 B σ env Hs p0 H p Bf (Q : VK) d p', Ok K cs ap H0 B0 B σ env Hs p0 → Hot ap Hs B Bf H → PotAt ap H p → m env p = some (d, p') →
  (∀ Bf' H' v, Hot ap Hs B Bf' H' → NxF ap Bf H Bf' H' → PotAt ap H' p' → Rep K cs ap Bf' d v → Q v H') → te σ H Q
def EvFO (te : TE) (m : Env' → Mo (List D)) : Prop := ∀ ap H0 B0 B σ env Hs p0 H p Bf (Q : VK) ds p', Ok K cs ap H0 B0 B σ env Hs p0 → Hot ap Hs B Bf H → PotAt ap H p → m env p = some (ds, p') →
  (∀ Bf' H' a xs, Hot ap Hs B Bf' H' → NxF ap Bf H Bf' H' → PotAt ap H' p' → H a = none → Bf' a = none → H' a = some (.lst xs) → Reps K cs ap Bf' ds xs → Q (.ref a) H') → te σ H Q
def EvFA (ta : TA) (m : Env' → Mo (List D)) : Prop := ∀ ap H0 B0 B σ env Hs p0 H p Bf (Q : List V → Hp → Prop) ds p', Ok K cs ap H0 B0 B σ env Hs p0 → Hot ap Hs B Bf H → PotAt ap H p → m env p = some (ds, p') →
  (∀ Bf' H' vs, Hot ap Hs B Bf' H' → NxF ap Bf H Bf' H' → PotAt ap H' p' → Reps K cs ap Bf' ds vs → Q vs H') → ta σ H Q
end
section
variable (cs : CT) (X : Cx)
structure PFD (e : Expr) (m : Env' → Mo D) : Prop where
  ex : ∃ te, PE X e te ∧ EvF X.K cs te m
structure PFO (e : Expr) (m : Env' → Mo (List D)) : Prop where
  ex : ∃ te, PE X e te ∧ EvFO X.K cs te m
structure PFA (es : List Expr) (m : Env' → Mo (List D)) : Prop where
  ex : ∃ ta, PA X es ta ∧ EvFA X.K cs ta m
end
def mPl (m : Env' → Mo D) : Env' → Mo D := fun env => bindM (m env) fun d => if plainD d = true then retM d else failM
def mPlO (m : Env' → Mo (List D)) : Env' → Mo (List D) := fun env => bindM (m env) fun ds => if ds.all scalD = true then retM ds else failM
section
variable {cs : CT} {X : Cx} {e : Expr} {es : List Expr} {m : Env' → Mo D} {mo : Env' → Mo (List D)} {pos p : Pos}
theorem pf_of (h : PED cs X e m) : PFD cs X e (mPl m) := by
  obtain ⟨te, a1, a2⟩ := h.ex
  refine ⟨te, a1, fun ap H0 B0 B σ env Hs p0 H p Bf Q d p' k ht hp hm q => ?_⟩
  obtain ⟨d', p1, e1, e2⟩ := bindM_some hm
  split at e2
  case isFalse => cases e2
  rename_i hpl
  cases e2
  have ko := ht.ok k hp
  refine a2 ap H0 B0 (uni B Bf) σ env H p _ d p' ko e1 fun B1 H1 v n1 hp1 r1 => ?_
  have k1 := ko.nxt n1 hp1
  by_cases hs : scalD d = true
  · exact q Bf H1 v (ht.step k n1.fr n1.nn) ⟨Ex.refl _, fun _ _ _ h => h, n1.fr, n1.nn⟩ hp1 (rep_scal hs r1)
  · cases d <;> first | exact absurd rfl hs | exact absurd hpl hs | skip
    rename_i ds
    have hds : ds.all scalD = true := hpl
    simp only [Rep] at r1
    obtain ⟨a, xs, rfl, sq, r2⟩ := r1
    rcases sq with rd | kc
    · obtain ⟨oo, hB1, hnl, hsq⟩ : ∃ oo, B1 a = some oo ∧ (∀ ys, oo ≠ .lst ys) ∧ ∀ G : Hp, G a = some oo → SqT X.K G a xs := by
        rcases rd with r | ⟨o, r⟩
        · exact ⟨_, r, fun _ z => (nomatch z), fun G hG => .inl (.inl hG)⟩
        · exact ⟨_, r, fun _ z => (nomatch z), fun G hG => .inl (.inr ⟨_, hG⟩)⟩
      have hH1 := n1.bh _ _ hB1
      have nap : a ≠ ap := fun z => by rw [z, k1.bap] at hB1; cases hB1
      have hbf : ∀ o, Bf a = some o → o = oo := fun o ho => by
        have := n1.fr a o (ht.bh _ _ ho) nap
        rw [hH1] at this
        exact (Option.some.inj this).symm
      have hst := ht.step k n1.fr n1.nn
      refine q (upd Bf a oo) H1 (.ref a) ⟨fun b o hb => ?_, fun b o hb => ?_, hst.fr, hst.nn⟩ ⟨fun b o hb => ?_, fun b ys hb h0 => ?_, n1.fr, n1.nn⟩ hp1 ?_
      · by_cases z : b = a
        · subst z
          rw [upd_same] at hb
          cases hb
          by_cases hn : H b = none
          · exact .inl (none_of ht.nn hn)
          · cases hu : uni B Bf b with
            | none => have := n1.nw b hn hu; rw [hB1] at this; cases this
            | some o =>
              have ho : o = oo := by
                have := n1.bb _ _ hu
                rw [hB1] at this
                exact (Option.some.inj this).symm
              subst ho
              unfold uni at hu
              cases hBb : B b with
              | some o' => rw [hBb] at hu; cases hu; exact .inr ⟨rfl, hnl⟩
              | none => rw [hBb] at hu; have := ht.ff b _ hu; rw [hBb] at this; exact this
        · rw [upd_ne z] at hb
          exact ht.ff b o hb
      · by_cases z : b = a
        · subst z; rw [upd_same] at hb; cases hb; exact hH1
        · rw [upd_ne z] at hb; exact hst.bh b o hb
      · by_cases z : b = a
        · subst z; rw [upd_same, hbf o hb]
        · rw [upd_ne z]; exact hb
      · by_cases z : b = a
        · subst z
          have := n1.fr b _ hb nap
          rw [hH1] at this; exact absurd (Option.some.inj this) (hnl _)
        · rw [upd_ne z]; exact h0
      · simp only [Rep]
        exact ⟨a, xs, rfl, hsq _ upd_same, reps_scal hds r2⟩
    · exact q Bf H1 (.ref a) (ht.step k n1.fr n1.nn) ⟨Ex.refl _, fun _ _ _ h => h, n1.fr, n1.nn⟩ hp1 (by simp only [Rep]; exact ⟨a, xs, rfl, .inr kc, reps_scal hds r2⟩)
theorem po_of (h : POD cs X e mo) : PFO cs X e (mPlO mo) := by
  obtain ⟨te, a1, a2⟩ := h.ex
  refine ⟨te, a1, fun ap H0 B0 B σ env Hs p0 H p Bf Q d p' k ht hp hm q => ?_⟩
  obtain ⟨d', p1, e1, e2⟩ := bindM_some hm
  split at e2
  case isFalse => cases e2
  rename_i hpl
  cases e2
  have ko := ht.ok k hp
  refine a2 ap H0 B0 (uni B Bf) σ env H p _ d p' ko e1 fun B1 H1 a xs n1 hp1 h0 hb hh r1 => ?_
  refine q Bf H1 a xs (ht.step k n1.fr n1.nn) ⟨Ex.refl _, fun _ _ _ h => h, n1.fr, n1.nn⟩ hp1 h0 ?_ hh (reps_scal hpl r1)
  cases z : Bf a with
  | none => rfl
  | some o => have := ht.bh _ _ z; rw [h0] at this; cases this
theorem pf_own (h : PFO cs X e mo) : PFD cs X e (mLst mo) := by
  obtain ⟨te, a1, a2⟩ := h.ex
  refine ⟨te, a1, fun ap H0 B0 B σ env Hs p0 H p Bf Q d p' k ht hp hm q => ?_⟩
  obtain ⟨ds, p1, e1, e2⟩ := bindM_some hm
  cases e2
  refine a2 ap H0 B0 B σ env Hs p0 H p Bf _ ds p' k ht hp e1 fun B1 H1 a xs ht1 n1 hp1 h0 hb hh r1 => ?_
  have ex : Ex B1 (upd B1 a (.lst xs)) := Ex.new hb
  refine q (upd B1 a (.lst xs)) H1 (.ref a) ⟨fun b o hb' => ?_, fun b o hb' => ?_, ht1.fr, ht1.nn⟩ ⟨n1.bb.trans ex, fun b ys hb' h0' => ?_, n1.fr, n1.nn⟩ hp1 ?_
  · by_cases z : b = a
    · subst z; exact .inl (none_of ht.nn h0)
    · rw [upd_ne z] at hb'; exact ht1.ff b o hb'
  · by_cases z : b = a
    · subst z; rw [upd_same] at hb'; cases hb'; exact hh
    · rw [upd_ne z] at hb'; exact ht1.bh b o hb'
  · have z : b ≠ a := fun z => by rw [z, h0] at hb'; cases hb'
    rw [upd_ne z]; exact n1.nw b ys hb' h0'
  · simp only [Rep]; exact ⟨a, xs, rfl, upd_same, r1.mono ex⟩
theorem pfa_nil : PFA cs X [] mNil := ⟨_, L2.pa_nil, fun ap H0 B0 B σ env Hs p0 H p Bf Q d p' k ht hp hm q => by cases hm; exact q Bf H [] ht (NxF.refl ap Bf H) hp reps_nil⟩
theorem pfa_cons {mr : Env' → Mo (List D)} (ha : PFD cs X e m) (hr : PFA cs X es mr) (hs : starEach (e :: es) X.env = (false, eval e X.env) :: starEach es X.env := by rfl) : PFA cs X (e :: es) (mCons m mr) := by
  obtain ⟨ta, a1, a2⟩ := ha.ex
  obtain ⟨tr, r1, r2⟩ := hr.ex
  refine ⟨_, L2.pa_cons a1 r1 hs, fun ap H0 B0 B σ env Hs p0 H p Bf Q d p' k ht hp hm q => ?_⟩
  obtain ⟨x, p1, e1, e2⟩ := bindM_some hm
  obtain ⟨xs, p2, e3, e4⟩ := bindM_some e2
  cases e4
  refine a2 ap H0 B0 B σ env Hs p0 H p Bf _ x p1 k ht hp e1 fun B1 H1 v ht1 n1 hp1 g1 => ?_
  exact r2 ap H0 B0 B σ env Hs p0 H1 p1 B1 _ xs p' k ht1 hp1 e3 fun B2 H2 vs ht2 n2 hp2 g2 => q B2 H2 (v :: vs) ht2 (n1.trans ⟨_, _, hp, ht1.nap k⟩ n2 (ht2.nap k)) hp2 (reps_cons (g1.mono n2.bb) g2)
theorem po_disp (h : PFA cs X es mo) : PFO cs X (.List es pos) (mNew mo) := by
  obtain ⟨ta, a1, a2⟩ := h.ex
  refine ⟨_, pe_lst a1, fun ap H0 B0 B σ env Hs p0 H p Bf Q d p' k ht hp hm q => ?_⟩
  obtain ⟨x, p1, e1, e2⟩ := bindM_some hm
  split at e2
  case isFalse => cases e2
  rename_i hl
  cases e2
  refine a2 ap H0 B0 B σ env Hs p0 H p Bf _ _ p' k ht hp e1 fun B1 H1 vs ht1 n1 hp1 g1 => ⟨sz100 (by rw [g1.length]; exact hl), fun t hnt => ?_⟩
  have hst : ∀ b o, H1 b = some o → b ≠ ap → upd H1 t (.lst vs) b = some o := fun b o hb _ => by rw [upd_ne (fun z => by rw [z, hnt] at hb; cases hb)]; exact hb
  have hsn : ∀ b, H1 b ≠ none → upd H1 t (.lst vs) b ≠ none := fun b hb => by rw [upd_ne (fun z => hb (by rw [z]; exact hnt))]; exact hb
  refine q B1 _ t vs (ht1.step k hst hsn) ⟨n1.bb, n1.nw, fun b o hb hap => hst b o (n1.fr b o hb hap) hap, fun b hb => hsn b (n1.nn b hb)⟩ (hp1.new hnt) (none_of n1.nn hnt) (Evl.fresh_back ht1.bh hnt) upd_same g1
variable {g : Bool} {k : Nat} {f : Addr} {fd : FuncData} {ps : List Str} {x : Str}
theorem po_call {n : Nat} {fo : List D → Mo (List D)} (F : FnD g X.prog X.w X.K X.mg X.base k f fd ps (spO X.K cs n fo)) (hr : Room k X.A) (hgd : g = true → X.A.guards = some []) (hm : X.mg x = some (.ref f)) (hk : PySem.W.keepIn X.K (.ref f) = true) (hb : Binds X.K fd ps []) (ha : PFA cs X (e :: es) mo) (hg : Gl X x := by rfl)
    (hdb : (x == ("__debug__" : Str)) = false := by decide) (he : starEach (e :: es) X.env = (false, eval e X.env) :: starEach es X.env := by rfl) (hpl : (backTo pos (starEach es X.env)).any (·.1) = false := by rfl) :
    PFO cs X (.Call (.Name x p) (e :: es) [] pos) (mCallO (lenO n fo) mo) := by
  obtain ⟨ta, a1, a2⟩ := ha.ex
  refine ⟨tCl (spO X.K cs n (lenO n fo)) ta, ⟨fun pins s σ H Q I h => ?_⟩, fun ap H0 B0 B σ env Hs p0 H p Bf Q d p' k ht hp hm q => ?_⟩
  · refine wpAny_Call_Name_kw (ld_glob I hg hm ?_ hdb)
    refine PySem.W.callWith_K (h₀ := X.base) I.ok.mod.kin hk (thn (a1.run pos pins s σ H _ I h) fun us s1 ⟨vs, H1, I1, r, q⟩ => ⟨I1.kIn, ?_⟩) he hpl
    have hb1 := hb s1 us I1.kIn (by rw [List.append_nil, ← r.length]; exact F.len _ _ _ _ (spO_len q))
    rw [List.append_nil] at hb1
    exact call_d (pv := us) (kw := []) F hr hgd hb1 I1 r (spO_len q)
  · obtain ⟨ds, p1, e1, e2⟩ := bindM_some hm
    refine a2 ap H0 B0 B σ env Hs p0 H p Bf _ ds p1 k ht hp e1 fun B1 H1 vs ht1 n1 hp1 r => ?_
    refine ⟨ap, B1, ds, p1, d, p', by rw [r.length, lenO_len ds p1 d p' e2], ht1.bh, hp1, ht1.nap k, r, e2, fun B' H' a xs n2 hp2 h0 hb hh r2 => ?_⟩
    have ff : ∀ b o, B' b = some o → Hs b = none ∨ (B b = some o ∧ ∀ xs, o ≠ .lst xs) := fun b o hb' => by
      cases z : B1 b with
      | some o' =>
        have := n2.bb _ _ z
        rw [hb'] at this
        cases this
        exact ht1.ff b _ z
      | none =>
        left
        cases zh : H1 b with
        | none => exact none_of ht1.nn zh
        | some o' => have := n2.nw b (some_ne zh) z; rw [hb'] at this; cases this
    have ht2 : Hot ap Hs B B' H' := ⟨ff, n2.bh, fun b o hb' hap => n2.fr b o (ht1.fr b o hb' hap) hap, fun b hb' => n2.nn b (ht1.nn b hb')⟩
    exact q B' H' a xs ht2 (n1.trans ⟨_, _, hp, ht1.nap k⟩ ⟨n2.bb, fun b ys hb' h0' => n2.nw b (some_ne hb') h0', n2.fr, n2.nn⟩ (ht2.nap k)) hp2 (none_of n1.nn h0) hb hh r2
end
end DL
end

section
set_option Elab.async false
set_option linter.all false
set_option maxRecDepth 100000
set_option maxHeartbeats 4000000
/-! DL: what is told is looked at, then spoilt. -/
namespace DL
open PySem PySem.Spec PyProof.Rows L2
open Evl (Ex)

theorem atI_nat {α : Type} {xs : List α} {n : Nat} {x : α} (h : xs[n]? = some x) : atI xs (n : Int) = some x := by
  have hn : n < xs.length := (List.getElem?_eq_some_iff.mp h).1
  unfold atI ixN
  rw [if_pos (by omega), if_pos (by omega), Int.toNat_natCast]
  exact h
/-- the told list stands, the lists that it reaches are lists still, all that stood ahead stands -/
structure Spoilt (ap : Addr) (Hs Bf : Hp) (t : Addr) (xs : List V) (p : Pt) (H : Hp) : Prop where
  tt : H t = some (.lst xs)
  bt : Bf t = none
  bap : Bf ap = none
  lf : ∀ b ys, Bf b = some (.lst ys) → Hs b = none
  ls : ∀ b ys, Bf b = some (.lst ys) → ∃ zs, H b = some (.lst zs)
  fr : ∀ b o, Hs b = some o → b ≠ ap → H b = some o
  nn : ∀ b, Hs b ≠ none → H b ≠ none
  pot : PotAt ap H p
theorem Spoilt.step {ap : Addr} {Hs Bf H : Hp} {t b : Addr} {xs ys zs : List V} {p : Pt} (s : Spoilt ap Hs Bf t xs p H) (h : Bf b = some (.lst ys)) : Spoilt ap Hs Bf t xs p (upd H b (.lst zs)) := by
  have htb : t ≠ b := fun z => by have := s.bt; rw [z, h] at this; cases this
  have hpb : ap ≠ b := fun z => by have := s.bap; rw [z, h] at this; cases this
  have hb := s.lf b ys h
  refine ⟨by rw [upd_ne htb]; exact s.tt, s.bt, s.bap, s.lf, fun c ws hc => ?_, fun c o hc hap => ?_, fun c hc => ?_, ?_⟩
  · by_cases z : c = b
    · subst z; exact ⟨zs, upd_same⟩
    · rw [upd_ne z]; exact s.ls c ws hc
  · have z : c ≠ b := fun z => by rw [z, hb] at hc; cases hc
    rw [upd_ne z]; exact s.fr c o hc hap
  · have z : c ≠ b := fun z => by rw [z] at hc; exact hc hb
    rw [upd_ne z]; exact s.nn c hc
  · have := s.pot
    unfold PotAt at this ⊢
    rw [upd_ne hpb]; exact this
/-- the list's item n is a list -/
def isL (ds : List D) (n : Nat) : Bool := match ds[n]? with
  | some (.lst _) => true
  | _ => false
def isLL (ds : List D) (n : Nat) : Bool := match ds[n]? with
  | some (.lst (.lst r :: _)) => decide (r.length ≤ 100000)
  | _ => false
theorem isL_ok {K : PySem.W.Frag} {cs : CT} {ap : Addr} {B : Hp} {ds : List D} {xs : List V} {n : Nat} (h : isL ds n = true) (r : Reps K cs ap B ds xs) : ∃ u ys, xs[n]? = some (.ref u) ∧ B u = some (.lst ys) := by
  unfold isL at h
  split at h
  case h_2 => cases h
  rename_i es e
  obtain ⟨x, h1, h2⟩ := r.get e
  simp only [Rep] at h2
  obtain ⟨a, ys, rfl, h3, _⟩ := h2
  exact ⟨a, ys, h1, h3⟩
theorem isLL_ok {K : PySem.W.Frag} {cs : CT} {ap : Addr} {B : Hp} {ds : List D} {xs : List V} {n : Nat} (h : isLL ds n = true) (r : Reps K cs ap B ds xs) : ∃ u ys w zs, xs[n]? = some (.ref u) ∧ B u = some (.lst (.ref w :: ys)) ∧ B w = some (.lst zs) ∧ zs.length ≤ 100000 := by
  unfold isLL at h
  split at h
  case h_2 => cases h
  rename_i rr es e
  obtain ⟨x, h1, h2⟩ := r.get e
  simp only [Rep] at h2
  obtain ⟨a, ys, rfl, h3, h4⟩ := h2
  simp only [Reps] at h4
  obtain ⟨y, ys', rfl, h5, h6⟩ := h4
  simp only [Rep] at h5
  obtain ⟨w, zs, rfl, h7, h8⟩ := h5
  exact ⟨a, ys', w, zs, h1, h3, h7, by rw [h8.length]; exact of_decide_eq_true h⟩
def mHot (i n : Nat) (m1 m2 : Env' → Mo (List D)) (mc : Env' → Mo Bool) (mr : Env' → Mo D) : MS := fun env => if i < env.length then bindM (m1 env) fun d1 => bindM (m2 (env.set i .un)) fun d2 =>
  if d1.length + d2.length ≤ 100000 then bindM (mc (env.set i (.val (.lst (d1 ++ d2))))) fun b => if b = true then bindM (mr (env.set i (.val (.lst (d1 ++ d2))))) fun d => retM (.rt d, env) else
    if isLL (d1 ++ d2) 0 = true ∧ isL (d1 ++ d2) n = true then retM (.nx, env.set i .un) else failM
  else failM else failM
section
variable {cs : CT} {X : Cx} {e1 e2 c r : Expr} {m1 m2 : Env' → Mo (List D)} {mc : Env' → Mo Bool} {mr : Env' → Mo D} {st1 st2 st4 st5 st6 : Stmt} {pr pi : Pos}
theorem s_hot (i n : Nat) {z : Int} (h1 : PFO cs X e1 m1) (h2 : PFO cs X e2 m2) (hc : PTD cs X c mc) (hr : PED cs X r mr) (s1 : ∀ te, PE X e1 te → PS X st1 (tAsg te (gName i))) (s2 : ∀ te, PE X e2 te → PS X st2 (tAsg (tOp rCat (tVar i) te) (gName i)))
    (s4 : PS X st4 (tDrop (tBM X.K "list" rAppend (tOp (rIxL X.K) (tOp (rIxL X.K) (tVar i) (tC (.int 0))) (tC (.int 0))) (tCons (tC (.int z)) tNil))))
    (s5 : PS X st5 (tDrop (tBM0 X.K "list" rReverse (tOp (rIxL X.K) (tVar i) (tC (.int 0))))))
    (s6 : PS X st6 (tDrop (tBM0 X.K "list" rClear (tOp (rIxL X.K) (tVar i) (tC (.int n)))))) :
    PSsD cs X [st1, st2, .If c [.Return (some r) pr] [] pi, st4, st5, st6] (mHot i n m1 m2 mc mr) := by
  obtain ⟨t1, a1, a2⟩ := h1.ex
  obtain ⟨t2, b1, b2⟩ := h2.ex
  obtain ⟨tc, c1, c2⟩ := hc.ex
  obtain ⟨tr, r1, r2⟩ := hr.ex
  refine ⟨_, pss_cons (s1 _ a1) (pss_cons (s2 _ b1) (pss_cons (ps_if c1 (pss_one (ps_ret r1)) pss_nil) (pss_cons s4 (pss_cons s5 (pss_one s6))))), fun ap H0 B0 B σ env Hs p0 E o env' p' k hm q => ?_⟩
  unfold mHot at hm
  split at hm
  case isFalse => cases hm
  rename_i hi
  obtain ⟨d1, p1, g1, hm⟩ := bindM_some hm
  obtain ⟨d2, p2, g2, hm⟩ := bindM_some hm
  split at hm
  case isFalse => cases hm
  rename_i hz
  obtain ⟨b, p3, g3, hm⟩ := bindM_some hm
  refine a2 ap H0 B0 B σ env Hs p0 Hs p0 (fun _ => none) _ d1 p1 k (Hot.start k) k.pot g1 fun Bf1 H1 u1 xs1 ht1 n1 hp1 hu0 hub huh hr1 => ?_
  have k1 : Ok X.K cs ap H0 B0 B (σ.set i (some (.ref u1))) (env.set i .un) Hs p0 := k.setp hi SlotOk.un rfl
  refine ⟨.ref u1, ?_, ?_⟩
  · rw [List.getElem?_set_self (by rw [k.len]; exact hi)]
  have hua : u1 ≠ ap := fun zz => by have := k.pot; unfold PotAt at this; rw [← zz, hu0] at this; cases this
  refine b2 ap H0 B0 B (σ.set i (some (.ref u1))) (env.set i .un) Hs p0 H1 p1 Bf1 _ d2 p2 k1 ht1 hp1 g2 fun Bf2 H2 u2 xs2 ht2 n2 hp2 hv0 hvb hvh hr2 => ?_
  have hu2 : H2 u1 = some (.lst xs1) := n2.fr _ _ huh hua
  refine ⟨u1, u2, xs1, xs2, rfl, rfl, hu2, hvh, sz100 (by rw [hr1.length, hr2.length]; exact hz), fun t hnt => ?_⟩
  have hrx : Reps X.K cs ap Bf2 (d1 ++ d2) (xs1 ++ xs2) := (hr1.mono n2.bb).append hr2
  generalize xs1 ++ xs2 = xs at *
  generalize d1 ++ d2 = ds at *
  show _
  have hst : ∀ b o, H2 b = some o → b ≠ ap → upd H2 t (.lst xs) b = some o := fun b o hb _ => by rw [upd_ne (fun z => by rw [z, hnt] at hb; cases hb)]; exact hb
  have hsn : ∀ b, H2 b ≠ none → upd H2 t (.lst xs) b ≠ none := fun b hb => by rw [upd_ne (fun z => hb (by rw [z]; exact hnt))]; exact hb
  have ht3 := ht2.step k1 hst hsn
  have hp3 : PotAt ap (upd H2 t (.lst xs)) p2 := hp2.new hnt
  have bt : Bf2 t = none := Evl.fresh_back ht2.bh hnt
  have hst0 : Hs t = none := none_of ht2.nn hnt
  -- the state of the ghost
  have k2 : Ok X.K cs ap H0 B0 B (σ.set i (some (.ref t))) (env.set i .un) Hs p0 := k.setp hi SlotOk.un rfl
  have eσ : (σ.set i (some (.ref u1))).set i (some (V.ref t)) = σ.set i (some (.ref t)) := List.set_set ..
  show tSeq _ _ _ _ _
  rw [eσ]
  have hb3 : Ex Bf2 (upd Bf2 t (.lst xs)) := Ex.new bt
  have ht4 : Hot ap Hs B (upd Bf2 t (.lst xs)) (upd H2 t (.lst xs)) := ⟨fun b o hb => by
      by_cases z : b = t
      · subst z; exact .inl hst0
      · rw [upd_ne z] at hb; exact ht2.ff b o hb, fun b o hb => by
      by_cases z : b = t
      · subst z; rw [upd_same] at hb ⊢; exact hb
      · rw [upd_ne z] at hb; exact ht3.bh b o hb, ht3.fr, ht3.nn⟩
  have k3 : Ok X.K cs ap H0 B0 (uni B (upd Bf2 t (.lst xs))) (σ.set i (some (.ref t))) (env.set i (.val (.lst ds))) (upd H2 t (.lst xs)) p2 := by
    have k4 := (ht4.ok k2 hp3).setd (i := i) (sv := .val (.lst ds)) (fun hi' => by
      refine ⟨.ref t, by rw [List.getElem?_set_self (by rw [k.len]; exact hi)], ?_⟩
      simp only [Rep]
      have hut : uni B (upd Bf2 t (.lst xs)) t = some (.lst xs) := by
        unfold uni
        have : B t = none := by
          cases z : B t with
          | none => rfl
          | some o => have := k.bh _ _ z; rw [hst0] at this; cases this
        rw [this]
        exact upd_same
      refine ⟨t, xs, rfl, hut, hrx.mono fun b o hb => ?_⟩
      unfold uni
      cases z : B b with
      | none =>
        have zt : b ≠ t := fun zz => by rw [zz, bt] at hb; cases hb
        show upd Bf2 t _ b = some o
        rw [upd_ne zt]; exact hb
      | some o' =>
        rcases ht2.ff b o hb with e | ⟨e, _⟩
        · have := k.bh _ _ z; rw [e] at this; cases this
        · rw [z] at e; exact e) rfl
    rw [List.set_set] at k4
    exact k4
  refine c2 ap H0 B0 _ _ _ _ p2 _ b p3 k3 g3 fun B5 H5 n5 hp5 => ?_
  have k5 := k3.nxt n5 hp5
  cases b with
  | true =>
    rw [if_pos rfl] at hm ⊢
    obtain ⟨d, p4, g4, hm⟩ := bindM_some hm
    cases hm
    refine r2 ap H0 B0 B5 _ _ H5 p3 _ d p' k5 g4 fun B6 H6 v n6 hp6 r6 => ?_
    exact q B6 H6 v (k5.st.trans n6) hp6 r6
  | false =>
    rw [if_neg (by decide)] at hm ⊢
    split at hm
    case isFalse => cases hm
    rename_i hsp
    cases hm
    have nap2 : Bf2 ap = none := ht2.nap k1
    have tap : t ≠ ap := fun zz => by have := hp2; unfold PotAt at this; rw [← zz, hnt] at this; cases this
    have S5 : Spoilt ap Hs Bf2 t xs p' H5 := by
      refine ⟨n5.fr _ _ upd_same tap, bt, nap2, fun b ys hb => ?_, fun b ys hb => ?_, fun b o hb hap => n5.fr _ _ (ht3.fr b o hb hap) hap, fun b hb => n5.nn b (ht3.nn b hb), hp5⟩
      · rcases ht2.ff b _ hb with e | ⟨_, e⟩
        · exact e
        · exact absurd rfl (e ys)
      · exact ⟨ys, n5.fr _ _ (ht3.bh _ _ hb) fun zz => by rw [zz, nap2] at hb; cases hb⟩
    obtain ⟨u, ys, w, zs, x1, x2, x3, x4⟩ := isLL_ok hsp.1 hrx
    obtain ⟨s, ws, y1, y2⟩ := isL_ok hsp.2 hrx
    have hσ : (σ.set i (some (V.ref t)))[i]? = some (some (.ref t)) := List.getElem?_set_self (by rw [k.len]; exact hi)
    have uap : u ≠ ap := fun zz => by rw [zz, nap2] at x2; cases x2
    have wap : w ≠ ap := fun zz => by rw [zz, nap2] at x3; cases x3
    have hu5 : H5 u = some (.lst (.ref w :: ys)) := n5.fr _ _ (ht3.bh _ _ x2) uap
    have hw5 : H5 w = some (.lst zs) := n5.fr _ _ (ht3.bh _ _ x3) wap
    show tSeq _ _ _ _ _
    refine ⟨.ref t, hσ, t, xs, 0, .ref u, rfl, rfl, SqL.of S5.tt, atI_nat x1, ?_⟩
    refine ⟨u, _, 0, .ref w, rfl, rfl, SqL.of hu5, atI_nat (n := 0) rfl, .inl ⟨rfl, zs, SqL.of hw5⟩, ?_⟩
    refine ⟨w, zs, .int z, rfl, rfl, hw5, Nat.lt_of_le_of_lt x4 (by rw [sizeLine_eq]; decide), ?_⟩
    have S6 := S5.step (zs := zs ++ [V.int z]) x3
    obtain ⟨us, hu6⟩ := S6.ls _ _ x2
    show tSeq _ _ _ _ _
    refine ⟨.ref t, hσ, t, xs, 0, .ref u, rfl, rfl, SqL.of S6.tt, atI_nat x1, .inl ⟨rfl, us, SqL.of hu6⟩, u, us, rfl, rfl, hu6, ?_⟩
    have S7 := S6.step (zs := us.reverse) x2
    obtain ⟨vs, hs7⟩ := S7.ls _ _ y2
    refine ⟨.ref t, hσ, t, xs, n, .ref s, rfl, rfl, SqL.of S7.tt, atI_nat y1, .inl ⟨rfl, vs, SqL.of hs7⟩, s, vs, rfl, rfl, hs7, ?_⟩
    have S8 := S7.step (zs := []) y2
    exact q B _ _ (Ex.refl _) (k2.cold S8.fr S8.nn S8.pot)
end
/-! ### own list cleared -/
def mClr (i : Nat) : MS := fun env => match env[i]? with
  | some (.own _) => retM (.nx, env.set i (.own []))
  | _ => failM
section
variable {cs : CT} {X : Cx} {pos : Pos}
theorem s_clr (i : Nat) {x : Str} {p1 apos cpos : Pos} (hN : X.N[i]? = some x := by rfl) (hv : Vis X.env.scope x := by first | exact Or.inl rfl | exact Or.inr (Or.inl rfl) | exact Or.inr (Or.inr rfl)) (hd : (x == ("__debug__" : Str)) = false := by decide)
    (hcd : (x == ("__classdict__" : Str)) = false := by decide) (hsw : swapsWith (.Call (.Attribute (.Name x p1) "clear" apos) [] [] cpos) none pos.line X.env = pure false := by rfl)
    (hbase : attributeBase (.Name x p1) "clear" X.env (eval (.Name x p1) X.env) = eval (.Name x p1) X.env := by rfl) (hline : (apos.endLine == cpos.line) = true := by rfl) :
    PSD cs X (.Expr (.Call (.Attribute (.Name x p1) "clear" apos) [] [] cpos) pos) (mClr i) := by
  refine ⟨_, ps_expr (pe_bm0 PySem.F.plainAttrs_list PySem.F.slot_list_clear PySem.F.type_list_clear mt_clear (pe_var hN hv hd hcd) (hbase := hbase) (hline := hline)) hsw, fun ap H0 B0 B σ env H p E o env' p' k hm q => ?_⟩
  unfold mClr at hm
  rcases g : env[i]? with _ | _ | _ | ds | _
  · rw [g] at hm; cases hm
  · rw [g] at hm; cases hm
  · rw [g] at hm; cases hm
  · rw [g] at hm
    cases hm
    obtain ⟨a, xs, g1, g2, g3, g4⟩ := k.sl i _ g
    refine ⟨.ref a, g1, .inl ⟨rfl, xs, SqL.of g3⟩, a, xs, rfl, rfl, g3, ?_⟩
    exact q B σ _ (Ex.refl _) (k.mut g g1 reps_nil)
  · rw [g] at hm; cases hm
end
/-! ### properties -/
def proG (K : Fr') (C : Addr) (x : Str) : Addr := match PySem.W.recIn K (proA K C x) "property" with
  | some (.ref g :: _) => g
  | _ => 0
def proB (K : Fr') (C : Addr) (x : Str) : Bool := match PySem.W.findIn K (.ref C) x with
  | some (some (.ref p)) => (match PySem.W.specialIn K (.ref p) "__get__" with
    | some (some (.builtin id)) => decide (id = "property.__get__")
    | _ => false) && ((match PySem.W.takesIn K (.ref p) with
    | some b => b
    | none => false) && (match PySem.W.recIn K p "property" with
    | some (.ref _ :: _) => true
    | _ => false))
  | _ => false
theorem proB_ok {K : Fr'} {C : Addr} {x : Str} (h : proB K C x = true) : PropOf K C x (proA K C x) (proG K C x) := by
  unfold proB at h
  split at h
  case h_2 => cases h
  rename_i p e
  have ea : proA K C x = p := by unfold proA; rw [e]
  rw [Bool.and_eq_true, Bool.and_eq_true] at h
  obtain ⟨h1, h2, h3⟩ := h
  refine ⟨by rw [ea]; exact e, ?_, ?_, ?_⟩
  · rw [ea]
    split at h1
    · rename_i id e1
      rw [e1, of_decide_eq_true h1]
    · cases h1
  · rw [ea]
    split at h2
    · rename_i b e1
      rw [e1, h2]
    · cases h2
  · unfold proG
    rw [ea]
    split at h3
    · rename_i g r e1
      exact ⟨r, by rw [e1]⟩
    · cases h3
end DL
end

section
set_option Elab.async false
set_option linter.all false
set_option maxRecDepth 100000
set_option maxHeartbeats 4000000
namespace Q
open PySem PySem.Spec PyProof.Rows L2 DL
def top (i : Nat) : Stmt := PySem.Challenge.pw_sheetdeals_k47_whole_deals_done_and_undo.main.body.getD i (.Pass ⟨0, 0, 0, 0⟩)
def clL (K : Fr') : List (Addr × List Str) := [(He.ga K "Ratio", ["own_top", "own_bottom"])]
def csK (K : Fr') : CT := csL (clL K)
def ex0 : List (Fr' → Bool) := [tFree "len", tFree "range", tFree "abs", tFree "max", tFree "min", tFree "int", tFree "repr", tFree "all", tFree "any", tFree "list", tFree "tuple", tFree "str", tFree "isinstance", tFree "enumerate", tFree "zip", tFree "divmod", tFree "bool", tFree "sorted", tFree "sum", tFree "dict", tFree "set", tFree "type", tGlo "_wall", tGlo "BendError", tGlo "StateError", tGlo "InvalidMany", tGlo "InvalidNumber", tGlo "InvalidPrime", tGlo "InvalidDeal", tGlo "NotGood"]
def ex1 : List (Fr' → Bool) := [tGlo "is_integer", tGlo "is_count", tGlo "is_list", tGlo "digits_of", tGlo "common_part", tGlo "Ratio", tGlo "told_pair", tGlo "is_number", tGlo "ratio_of", tGlo "want_number", tGlo "want_prime", tGlo "undone_rest", tGlo "rest_of", tGlo "is_deal_of", tGlo "behind_table", tGlo "rest", tGlo "is_dealt", tGlo "want_deal", tGlo "undone_of", tGlo "cycles_of", tGlo "common_multiple", tGlo "is_even_of", tGlo "done_of", tGlo "is_deal", tGlo "behind_deal", tGlo "undone_deal", tGlo "cycles", tGlo "order", tGlo "done_deal", tGlo "is_even_deal"]
def ex2 : List (Fr' → Bool) := [tGlo "is_square", tGlo "_law_pot", tGlo "_law_draw", tGlo "_law_pick", tGlo "_law_mixed", tGlo "_law_by_rounds", tGlo "_law_deal", tGlo "_law_rounds", tGlo "_law_common", tGlo "_law_order", tGlo "_law_done", tGlo "_law_is_even", tGlo "_law_one_right", tGlo "_law_times_right", tGlo "_law_behind_right", tGlo "_law_squares_right", tGlo "_law_right", tGlo "law", tBi "gcd" "math.gcd", tInt "PART" 1000000000000000000000000000000000000000000000000000000000000, tTupI "PRIMES" [3, 5, 7, 11], tInt "MOST_TIMES" 1000000, tCls "Ratio", tNoat "Ratio" "own_top", tNoat "Ratio" "own_bottom", tMkr "Ratio", (fun K => proB K (He.ga K "Ratio") "top"), (fun K => proB K (He.ga K "Ratio") "bottom"), (fun K => isiB K (clL K)), (fun K => injB (clL K))]
def ex : List (Fr' → Bool) := ex0 ++ (ex1 ++ (ex2))
def z_is_integer : DefZ := ⟨fun K => He.ga K "is_integer", "is_integer", "is_integer", defArgs (top 11), defBody (top 11), defScope (top 11), []⟩
def z_is_count : DefZ := ⟨fun K => He.ga K "is_count", "is_count", "is_count", defArgs (top 12), defBody (top 12), defScope (top 12), []⟩
def z_is_list : DefZ := ⟨fun K => He.ga K "is_list", "is_list", "is_list", defArgs (top 13), defBody (top 13), defScope (top 13), []⟩
def z_common_part : DefZ := ⟨fun K => He.ga K "common_part", "common_part", "common_part", defArgs (top 17), defBody (top 17), defScope (top 17), []⟩
def z_Ratio___init__ : DefZ := ⟨fun K => He.ma K (He.ga K "Ratio") "__init__", "__init__", "Ratio.__init__", defArgs (inClass (top 18) 0), defBody (inClass (top 18) 0), defScope (inClass (top 18) 0), [.int 1]⟩
def z_Ratio_top : DefZ := ⟨fun K => proG K (He.ga K "Ratio") "top", "top", "Ratio.top", defArgs (inClass (top 18) 1), defBody (inClass (top 18) 1), defScope (inClass (top 18) 1), []⟩
def z_Ratio_bottom : DefZ := ⟨fun K => proG K (He.ga K "Ratio") "bottom", "bottom", "Ratio.bottom", defArgs (inClass (top 18) 2), defBody (inClass (top 18) 2), defScope (inClass (top 18) 2), []⟩
def z_told_pair : DefZ := ⟨fun K => He.ga K "told_pair", "told_pair", "told_pair", defArgs (top 19), defBody (top 19), defScope (top 19), []⟩
def z_is_number : DefZ := ⟨fun K => He.ga K "is_number", "is_number", "is_number", defArgs (top 20), defBody (top 20), defScope (top 20), []⟩
def z_ratio_of : DefZ := ⟨fun K => He.ga K "ratio_of", "ratio_of", "ratio_of", defArgs (top 21), defBody (top 21), defScope (top 21), []⟩
def z_want_number : DefZ := ⟨fun K => He.ga K "want_number", "want_number", "want_number", defArgs (top 22), defBody (top 22), defScope (top 22), []⟩
def z_want_prime : DefZ := ⟨fun K => He.ga K "want_prime", "want_prime", "want_prime", defArgs (top 25), defBody (top 25), defScope (top 25), []⟩
def z_undone_rest : DefZ := ⟨fun K => He.ga K "undone_rest", "undone_rest", "undone_rest", defArgs (top 26), defBody (top 26), defScope (top 26), []⟩
def z_rest_of : DefZ := ⟨fun K => He.ga K "rest_of", "rest_of", "rest_of", defArgs (top 27), defBody (top 27), defScope (top 27), []⟩
def z_is_deal_of : DefZ := ⟨fun K => He.ga K "is_deal_of", "is_deal_of", "is_deal_of", defArgs (top 28), defBody (top 28), defScope (top 28), []⟩
def z_behind_table : DefZ := ⟨fun K => He.ga K "behind_table", "behind_table", "behind_table", defArgs (top 29), defBody (top 29), defScope (top 29), []⟩
def z_rest : DefZ := ⟨fun K => He.ga K "rest", "rest", "rest", defArgs (top 30), defBody (top 30), defScope (top 30), []⟩
def z_is_dealt : DefZ := ⟨fun K => He.ga K "is_dealt", "is_dealt", "is_dealt", defArgs (top 33), defBody (top 33), defScope (top 33), []⟩
def z_want_deal : DefZ := ⟨fun K => He.ga K "want_deal", "want_deal", "want_deal", defArgs (top 34), defBody (top 34), defScope (top 34), []⟩
def z_undone_of : DefZ := ⟨fun K => He.ga K "undone_of", "undone_of", "undone_of", defArgs (top 35), defBody (top 35), defScope (top 35), []⟩
def z_cycles_of : DefZ := ⟨fun K => He.ga K "cycles_of", "cycles_of", "cycles_of", defArgs (top 36), defBody (top 36), defScope (top 36), []⟩
def z_common_multiple : DefZ := ⟨fun K => He.ga K "common_multiple", "common_multiple", "common_multiple", defArgs (top 37), defBody (top 37), defScope (top 37), []⟩
def z_is_even_of : DefZ := ⟨fun K => He.ga K "is_even_of", "is_even_of", "is_even_of", defArgs (top 38), defBody (top 38), defScope (top 38), []⟩
def z_done_of : DefZ := ⟨fun K => He.ga K "done_of", "done_of", "done_of", defArgs (top 39), defBody (top 39), defScope (top 39), []⟩
def z_is_deal : DefZ := ⟨fun K => He.ga K "is_deal", "is_deal", "is_deal", defArgs (top 40), defBody (top 40), defScope (top 40), []⟩
def z_behind_deal : DefZ := ⟨fun K => He.ga K "behind_deal", "behind_deal", "behind_deal", defArgs (top 41), defBody (top 41), defScope (top 41), []⟩
def z_undone_deal : DefZ := ⟨fun K => He.ga K "undone_deal", "undone_deal", "undone_deal", defArgs (top 42), defBody (top 42), defScope (top 42), []⟩
def z_cycles : DefZ := ⟨fun K => He.ga K "cycles", "cycles", "cycles", defArgs (top 43), defBody (top 43), defScope (top 43), []⟩
def z_order : DefZ := ⟨fun K => He.ga K "order", "order", "order", defArgs (top 44), defBody (top 44), defScope (top 44), []⟩
def z_done_deal : DefZ := ⟨fun K => He.ga K "done_deal", "done_deal", "done_deal", defArgs (top 45), defBody (top 45), defScope (top 45), []⟩
def z_is_even_deal : DefZ := ⟨fun K => He.ga K "is_even_deal", "is_even_deal", "is_even_deal", defArgs (top 46), defBody (top 46), defScope (top 46), []⟩
def z_is_square : DefZ := ⟨fun K => He.ga K "is_square", "is_square", "is_square", defArgs (top 47), defBody (top 47), defScope (top 47), []⟩
def z__law_pot : DefZ := ⟨fun K => He.ga K "_law_pot", "_law_pot", "_law_pot", defArgs (top 49), defBody (top 49), defScope (top 49), []⟩
def z__law_draw : DefZ := ⟨fun K => He.ga K "_law_draw", "_law_draw", "_law_draw", defArgs (top 50), defBody (top 50), defScope (top 50), []⟩
def z__law_pick : DefZ := ⟨fun K => He.ga K "_law_pick", "_law_pick", "_law_pick", defArgs (top 51), defBody (top 51), defScope (top 51), []⟩
def z__law_mixed : DefZ := ⟨fun K => He.ga K "_law_mixed", "_law_mixed", "_law_mixed", defArgs (top 52), defBody (top 52), defScope (top 52), []⟩
def z__law_by_rounds : DefZ := ⟨fun K => He.ga K "_law_by_rounds", "_law_by_rounds", "_law_by_rounds", defArgs (top 53), defBody (top 53), defScope (top 53), []⟩
def z__law_deal : DefZ := ⟨fun K => He.ga K "_law_deal", "_law_deal", "_law_deal", defArgs (top 54), defBody (top 54), defScope (top 54), []⟩
def z__law_rounds : DefZ := ⟨fun K => He.ga K "_law_rounds", "_law_rounds", "_law_rounds", defArgs (top 55), defBody (top 55), defScope (top 55), []⟩
def z__law_common : DefZ := ⟨fun K => He.ga K "_law_common", "_law_common", "_law_common", defArgs (top 56), defBody (top 56), defScope (top 56), []⟩
def z__law_order : DefZ := ⟨fun K => He.ga K "_law_order", "_law_order", "_law_order", defArgs (top 57), defBody (top 57), defScope (top 57), []⟩
def z__law_done : DefZ := ⟨fun K => He.ga K "_law_done", "_law_done", "_law_done", defArgs (top 58), defBody (top 58), defScope (top 58), []⟩
def z__law_is_even : DefZ := ⟨fun K => He.ga K "_law_is_even", "_law_is_even", "_law_is_even", defArgs (top 59), defBody (top 59), defScope (top 59), []⟩
def z__law_one_right : DefZ := ⟨fun K => He.ga K "_law_one_right", "_law_one_right", "_law_one_right", defArgs (top 60), defBody (top 60), defScope (top 60), []⟩
def z__law_times_right : DefZ := ⟨fun K => He.ga K "_law_times_right", "_law_times_right", "_law_times_right", defArgs (top 61), defBody (top 61), defScope (top 61), []⟩
def z__law_behind_right : DefZ := ⟨fun K => He.ga K "_law_behind_right", "_law_behind_right", "_law_behind_right", defArgs (top 62), defBody (top 62), defScope (top 62), []⟩
def z__law_squares_right : DefZ := ⟨fun K => He.ga K "_law_squares_right", "_law_squares_right", "_law_squares_right", defArgs (top 63), defBody (top 63), defScope (top 63), []⟩
def z__law_right : DefZ := ⟨fun K => He.ga K "_law_right", "_law_right", "_law_right", defArgs (top 64), defBody (top 64), defScope (top 64), []⟩
def z_law : DefZ := ⟨fun K => He.ga K "law", "law", "law", defArgs (top 65), defBody (top 65), defScope (top 65), []⟩
def fn0 : List DefZ := [z_is_integer, z_is_count, z_is_list, z_common_part, z_Ratio___init__, z_Ratio_top, z_Ratio_bottom, z_told_pair, z_is_number, z_ratio_of, z_want_number, z_want_prime, z_undone_rest, z_rest_of, z_is_deal_of, z_behind_table, z_rest, z_is_dealt, z_want_deal, z_undone_of, z_cycles_of, z_common_multiple, z_is_even_of, z_done_of, z_is_deal, z_behind_deal, z_undone_deal, z_cycles, z_order, z_done_deal]
def fn1 : List DefZ := [z_is_even_deal, z_is_square, z__law_pot, z__law_draw, z__law_pick, z__law_mixed, z__law_by_rounds, z__law_deal, z__law_rounds, z__law_common, z__law_order, z__law_done, z__law_is_even, z__law_one_right, z__law_times_right, z__law_behind_right, z__law_squares_right, z__law_right, z_law]
def fn : List DefZ := fn0 ++ (fn1)
/-- what the module is -/
structure Zx (P : Program) (w : World) (K : Fr') (mg : Str → Option Value) (base : Heap) : Prop where
  says : SaysZ ex fn K
  ns : ∃ h : Heap, K.In h ∧ h.Ns mainGlobals mg
section
variable {P : Program} {w : World} {K : Fr'} {mg : Str → Option Value} {base : Heap}
theorem Zx.glo (Z : Zx P w K mg base) (i : Nat) {x : Str} (h : ex[i]? = some (tGlo x) := by rfl) : mg x = some (.ref (He.ga K x)) := by
  obtain ⟨hp, X, G⟩ := Z.ns
  exact He.glo_ok X G (Z.says.fact i h)
theorem Zx.free (Z : Zx P w K mg base) (i : Nat) {x : Str} (h : ex[i]? = some (tFree x) := by rfl) : mg x = none := by
  obtain ⟨hp, X, G⟩ := Z.ns
  exact He.free_ok X G (Z.says.fact i h)
theorem Zx.bi (Z : Zx P w K mg base) (i : Nat) {x : Str} {id : String} (h : ex[i]? = some (tBi x id) := by rfl) : mg x = some (.builtin id) := by
  obtain ⟨hp, X, G⟩ := Z.ns
  exact tBi_ok X G (Z.says.fact i h)
theorem Zx.int (Z : Zx P w K mg base) (i : Nat) {x : Str} {n : Int} (h : ex[i]? = some (tInt x n) := by rfl) : ∃ t, mg x = some (.int n t) := by
  obtain ⟨hp, X, G⟩ := Z.ns
  exact He.int_ok X G (Z.says.fact i h)
theorem Zx.str (Z : Zx P w K mg base) (i : Nat) {x z : Str} (h : ex[i]? = some (tStr x z) := by rfl) : ∃ t, mg x = some (.str z t) := by
  obtain ⟨hp, X, G⟩ := Z.ns
  exact He.str_ok X G (Z.says.fact i h)
theorem Zx.tupI (Z : Zx P w K mg base) (i : Nat) {x : Str} {ns : List Int} (h : ex[i]? = some (tTupI x ns) := by rfl) : ∃ t, mg x = some (.ref t) ∧ ∀ H, SqT K H t (ns.map V.int) := by
  obtain ⟨hp, X, G⟩ := Z.ns
  exact tTupI_ok X G (Z.says.fact i h)
theorem Zx.fr_len (Z : Zx P w K mg base) : mg "len" = none := Z.free 0
theorem Zx.fr_range (Z : Zx P w K mg base) : mg "range" = none := Z.free 1
theorem Zx.fr_abs (Z : Zx P w K mg base) : mg "abs" = none := Z.free 2
theorem Zx.fr_max (Z : Zx P w K mg base) : mg "max" = none := Z.free 3
theorem Zx.fr_min (Z : Zx P w K mg base) : mg "min" = none := Z.free 4
theorem Zx.fr_int (Z : Zx P w K mg base) : mg "int" = none := Z.free 5
theorem Zx.fr_repr (Z : Zx P w K mg base) : mg "repr" = none := Z.free 6
theorem Zx.fr_all (Z : Zx P w K mg base) : mg "all" = none := Z.free 7
theorem Zx.fr_any (Z : Zx P w K mg base) : mg "any" = none := Z.free 8
theorem Zx.fr_list (Z : Zx P w K mg base) : mg "list" = none := Z.free 9
theorem Zx.fr_tuple (Z : Zx P w K mg base) : mg "tuple" = none := Z.free 10
theorem Zx.fr_str (Z : Zx P w K mg base) : mg "str" = none := Z.free 11
theorem Zx.fr_isinstance (Z : Zx P w K mg base) : mg "isinstance" = none := Z.free 12
theorem Zx.fr_enumerate (Z : Zx P w K mg base) : mg "enumerate" = none := Z.free 13
theorem Zx.fr_zip (Z : Zx P w K mg base) : mg "zip" = none := Z.free 14
theorem Zx.fr_divmod (Z : Zx P w K mg base) : mg "divmod" = none := Z.free 15
theorem Zx.fr_bool (Z : Zx P w K mg base) : mg "bool" = none := Z.free 16
theorem Zx.fr_sorted (Z : Zx P w K mg base) : mg "sorted" = none := Z.free 17
theorem Zx.fr_sum (Z : Zx P w K mg base) : mg "sum" = none := Z.free 18
theorem Zx.fr_dict (Z : Zx P w K mg base) : mg "dict" = none := Z.free 19
theorem Zx.fr_set (Z : Zx P w K mg base) : mg "set" = none := Z.free 20
theorem Zx.fr_type (Z : Zx P w K mg base) : mg "type" = none := Z.free 21
theorem Zx.glo__wall (Z : Zx P w K mg base) : mg "_wall" = some (.ref (He.ga K "_wall")) := Z.glo 22
theorem Zx.glo_BendError (Z : Zx P w K mg base) : mg "BendError" = some (.ref (He.ga K "BendError")) := Z.glo 23
theorem Zx.glo_StateError (Z : Zx P w K mg base) : mg "StateError" = some (.ref (He.ga K "StateError")) := Z.glo 24
theorem Zx.glo_InvalidMany (Z : Zx P w K mg base) : mg "InvalidMany" = some (.ref (He.ga K "InvalidMany")) := Z.glo 25
theorem Zx.glo_InvalidNumber (Z : Zx P w K mg base) : mg "InvalidNumber" = some (.ref (He.ga K "InvalidNumber")) := Z.glo 26
theorem Zx.glo_InvalidPrime (Z : Zx P w K mg base) : mg "InvalidPrime" = some (.ref (He.ga K "InvalidPrime")) := Z.glo 27
theorem Zx.glo_InvalidDeal (Z : Zx P w K mg base) : mg "InvalidDeal" = some (.ref (He.ga K "InvalidDeal")) := Z.glo 28
theorem Zx.glo_NotGood (Z : Zx P w K mg base) : mg "NotGood" = some (.ref (He.ga K "NotGood")) := Z.glo 29
theorem Zx.glo_is_integer (Z : Zx P w K mg base) : mg "is_integer" = some (.ref (He.ga K "is_integer")) := Z.glo 30
theorem Zx.glo_is_count (Z : Zx P w K mg base) : mg "is_count" = some (.ref (He.ga K "is_count")) := Z.glo 31
theorem Zx.glo_is_list (Z : Zx P w K mg base) : mg "is_list" = some (.ref (He.ga K "is_list")) := Z.glo 32
theorem Zx.glo_digits_of (Z : Zx P w K mg base) : mg "digits_of" = some (.ref (He.ga K "digits_of")) := Z.glo 33
theorem Zx.glo_common_part (Z : Zx P w K mg base) : mg "common_part" = some (.ref (He.ga K "common_part")) := Z.glo 34
theorem Zx.glo_Ratio (Z : Zx P w K mg base) : mg "Ratio" = some (.ref (He.ga K "Ratio")) := Z.glo 35
theorem Zx.glo_told_pair (Z : Zx P w K mg base) : mg "told_pair" = some (.ref (He.ga K "told_pair")) := Z.glo 36
theorem Zx.glo_is_number (Z : Zx P w K mg base) : mg "is_number" = some (.ref (He.ga K "is_number")) := Z.glo 37
theorem Zx.glo_ratio_of (Z : Zx P w K mg base) : mg "ratio_of" = some (.ref (He.ga K "ratio_of")) := Z.glo 38
theorem Zx.glo_want_number (Z : Zx P w K mg base) : mg "want_number" = some (.ref (He.ga K "want_number")) := Z.glo 39
theorem Zx.glo_want_prime (Z : Zx P w K mg base) : mg "want_prime" = some (.ref (He.ga K "want_prime")) := Z.glo 40
theorem Zx.glo_undone_rest (Z : Zx P w K mg base) : mg "undone_rest" = some (.ref (He.ga K "undone_rest")) := Z.glo 41
theorem Zx.glo_rest_of (Z : Zx P w K mg base) : mg "rest_of" = some (.ref (He.ga K "rest_of")) := Z.glo 42
theorem Zx.glo_is_deal_of (Z : Zx P w K mg base) : mg "is_deal_of" = some (.ref (He.ga K "is_deal_of")) := Z.glo 43
theorem Zx.glo_behind_table (Z : Zx P w K mg base) : mg "behind_table" = some (.ref (He.ga K "behind_table")) := Z.glo 44
theorem Zx.glo_rest (Z : Zx P w K mg base) : mg "rest" = some (.ref (He.ga K "rest")) := Z.glo 45
theorem Zx.glo_is_dealt (Z : Zx P w K mg base) : mg "is_dealt" = some (.ref (He.ga K "is_dealt")) := Z.glo 46
theorem Zx.glo_want_deal (Z : Zx P w K mg base) : mg "want_deal" = some (.ref (He.ga K "want_deal")) := Z.glo 47
theorem Zx.glo_undone_of (Z : Zx P w K mg base) : mg "undone_of" = some (.ref (He.ga K "undone_of")) := Z.glo 48
theorem Zx.glo_cycles_of (Z : Zx P w K mg base) : mg "cycles_of" = some (.ref (He.ga K "cycles_of")) := Z.glo 49
theorem Zx.glo_common_multiple (Z : Zx P w K mg base) : mg "common_multiple" = some (.ref (He.ga K "common_multiple")) := Z.glo 50
theorem Zx.glo_is_even_of (Z : Zx P w K mg base) : mg "is_even_of" = some (.ref (He.ga K "is_even_of")) := Z.glo 51
theorem Zx.glo_done_of (Z : Zx P w K mg base) : mg "done_of" = some (.ref (He.ga K "done_of")) := Z.glo 52
theorem Zx.glo_is_deal (Z : Zx P w K mg base) : mg "is_deal" = some (.ref (He.ga K "is_deal")) := Z.glo 53
theorem Zx.glo_behind_deal (Z : Zx P w K mg base) : mg "behind_deal" = some (.ref (He.ga K "behind_deal")) := Z.glo 54
theorem Zx.glo_undone_deal (Z : Zx P w K mg base) : mg "undone_deal" = some (.ref (He.ga K "undone_deal")) := Z.glo 55
theorem Zx.glo_cycles (Z : Zx P w K mg base) : mg "cycles" = some (.ref (He.ga K "cycles")) := Z.glo 56
theorem Zx.glo_order (Z : Zx P w K mg base) : mg "order" = some (.ref (He.ga K "order")) := Z.glo 57
theorem Zx.glo_done_deal (Z : Zx P w K mg base) : mg "done_deal" = some (.ref (He.ga K "done_deal")) := Z.glo 58
theorem Zx.glo_is_even_deal (Z : Zx P w K mg base) : mg "is_even_deal" = some (.ref (He.ga K "is_even_deal")) := Z.glo 59
theorem Zx.glo_is_square (Z : Zx P w K mg base) : mg "is_square" = some (.ref (He.ga K "is_square")) := Z.glo 60
theorem Zx.glo__law_pot (Z : Zx P w K mg base) : mg "_law_pot" = some (.ref (He.ga K "_law_pot")) := Z.glo 61
theorem Zx.glo__law_draw (Z : Zx P w K mg base) : mg "_law_draw" = some (.ref (He.ga K "_law_draw")) := Z.glo 62
theorem Zx.glo__law_pick (Z : Zx P w K mg base) : mg "_law_pick" = some (.ref (He.ga K "_law_pick")) := Z.glo 63
theorem Zx.glo__law_mixed (Z : Zx P w K mg base) : mg "_law_mixed" = some (.ref (He.ga K "_law_mixed")) := Z.glo 64
theorem Zx.glo__law_by_rounds (Z : Zx P w K mg base) : mg "_law_by_rounds" = some (.ref (He.ga K "_law_by_rounds")) := Z.glo 65
theorem Zx.glo__law_deal (Z : Zx P w K mg base) : mg "_law_deal" = some (.ref (He.ga K "_law_deal")) := Z.glo 66
theorem Zx.glo__law_rounds (Z : Zx P w K mg base) : mg "_law_rounds" = some (.ref (He.ga K "_law_rounds")) := Z.glo 67
theorem Zx.glo__law_common (Z : Zx P w K mg base) : mg "_law_common" = some (.ref (He.ga K "_law_common")) := Z.glo 68
theorem Zx.glo__law_order (Z : Zx P w K mg base) : mg "_law_order" = some (.ref (He.ga K "_law_order")) := Z.glo 69
theorem Zx.glo__law_done (Z : Zx P w K mg base) : mg "_law_done" = some (.ref (He.ga K "_law_done")) := Z.glo 70
theorem Zx.glo__law_is_even (Z : Zx P w K mg base) : mg "_law_is_even" = some (.ref (He.ga K "_law_is_even")) := Z.glo 71
theorem Zx.glo__law_one_right (Z : Zx P w K mg base) : mg "_law_one_right" = some (.ref (He.ga K "_law_one_right")) := Z.glo 72
theorem Zx.glo__law_times_right (Z : Zx P w K mg base) : mg "_law_times_right" = some (.ref (He.ga K "_law_times_right")) := Z.glo 73
theorem Zx.glo__law_behind_right (Z : Zx P w K mg base) : mg "_law_behind_right" = some (.ref (He.ga K "_law_behind_right")) := Z.glo 74
theorem Zx.glo__law_squares_right (Z : Zx P w K mg base) : mg "_law_squares_right" = some (.ref (He.ga K "_law_squares_right")) := Z.glo 75
theorem Zx.glo__law_right (Z : Zx P w K mg base) : mg "_law_right" = some (.ref (He.ga K "_law_right")) := Z.glo 76
theorem Zx.glo_law (Z : Zx P w K mg base) : mg "law" = some (.ref (He.ga K "law")) := Z.glo 77
theorem Zx.bi_gcd (Z : Zx P w K mg base) : mg "gcd" = some (.builtin "math.gcd") := Z.bi 78
theorem Zx.c_PART (Z : Zx P w K mg base) : ∃ t, mg "PART" = some (.int 1000000000000000000000000000000000000000000000000000000000000 t) := Z.int 79
theorem Zx.c_PRIMES (Z : Zx P w K mg base) : ∃ t, mg "PRIMES" = some (.ref t) ∧ ∀ H, SqT K H t (([3, 5, 7, 11] : List Int).map V.int) := Z.tupI 80
theorem Zx.c_MOST_TIMES (Z : Zx P w K mg base) : ∃ t, mg "MOST_TIMES" = some (.int 1000000 t) := Z.int 81
theorem Zx.cl0 (Z : Zx P w K mg base) : ClsAt K (csK K) 0 (He.ga K "Ratio") ["own_top", "own_bottom"] := ⟨rfl, by decide, He.cls_ok (Z.says.fact 82)⟩
theorem Zx.no_Ratio_own_top (Z : Zx P w K mg base) : NoAttr K (He.ga K "Ratio") "own_top" := He.noat_ok (Z.says.fact 83)
theorem Zx.no_Ratio_own_bottom (Z : Zx P w K mg base) : NoAttr K (He.ga K "Ratio") "own_bottom" := He.noat_ok (Z.says.fact 84)
theorem Zx.mkr_Ratio (Z : Zx P w K mg base) : Mk K (He.ga K "Ratio") (He.ma K (He.ga K "Ratio") "__init__") := He.mkr_ok (Z.says.fact 85)
theorem Zx.pr_Ratio_top (Z : Zx P w K mg base) : PropOf K (He.ga K "Ratio") "top" (proA K (He.ga K "Ratio") "top") (proG K (He.ga K "Ratio") "top") := proB_ok (Z.says.fact 86)
theorem Zx.pr_Ratio_bottom (Z : Zx P w K mg base) : PropOf K (He.ga K "Ratio") "bottom" (proA K (He.ga K "Ratio") "bottom") (proG K (He.ga K "Ratio") "bottom") := proB_ok (Z.says.fact 87)
theorem Zx.isi (Z : Zx P w K mg base) : IsiF K (csK K) := by
  refine isiB_ok (fun p hp => ?_) (Z.says.fact 88)
  simp only [clL, List.mem_cons, List.mem_nil_iff, or_false] at hp
  rcases hp with rfl
  · exact (Z.cl0).cl
theorem Zx.inj (Z : Zx P w K mg base) : ∀ c c' C fn fn', csK K c = some (C, fn) → csK K c' = some (C, fn') → c = c' := injB_ok (Z.says.fact 89)
end
end Q
end

section
set_option Elab.async false
set_option linter.all false
set_option maxRecDepth 100000
set_option maxHeartbeats 0
namespace Q
open PySem PySem.Spec PyProof.Rows L2 DL
def loose0 : List PySem.Str := [PySem.Str.ofString "__name__", PySem.Str.ofString "_wall", PySem.Str.ofString "BendError", PySem.Str.ofString "StateError", PySem.Str.ofString "InvalidMany", PySem.Str.ofString "InvalidNumber", PySem.Str.ofString "InvalidPrime", PySem.Str.ofString "InvalidDeal", PySem.Str.ofString "NotGood", PySem.Str.ofString "is_integer", PySem.Str.ofString "is_count", PySem.Str.ofString "is_list", PySem.Str.ofString "PART", PySem.Str.ofString "digits_of", PySem.Str.ofString "common_part", PySem.Str.ofString "Ratio", PySem.Str.ofString "told_pair", PySem.Str.ofString "is_number", PySem.Str.ofString "ratio_of", PySem.Str.ofString "want_number", PySem.Str.ofString "PRIMES", PySem.Str.ofString "want_prime", PySem.Str.ofString "undone_rest", PySem.Str.ofString "rest_of", PySem.Str.ofString "is_deal_of", PySem.Str.ofString "behind_table", PySem.Str.ofString "rest", PySem.Str.ofString "MOST_TIMES", PySem.Str.ofString "is_dealt", PySem.Str.ofString "want_deal", PySem.Str.ofString "undone_of", PySem.Str.ofString "cycles_of", PySem.Str.ofString "common_multiple", PySem.Str.ofString "is_even_of", PySem.Str.ofString "done_of"]
def loose1 : List PySem.Str := [PySem.Str.ofString "is_deal", PySem.Str.ofString "behind_deal", PySem.Str.ofString "undone_deal", PySem.Str.ofString "cycles", PySem.Str.ofString "order", PySem.Str.ofString "done_deal", PySem.Str.ofString "is_even_deal", PySem.Str.ofString "is_square", PySem.Str.ofString "_law_pot", PySem.Str.ofString "_law_draw", PySem.Str.ofString "_law_pick", PySem.Str.ofString "_law_mixed", PySem.Str.ofString "_law_by_rounds", PySem.Str.ofString "_law_deal", PySem.Str.ofString "_law_rounds", PySem.Str.ofString "_law_common", PySem.Str.ofString "_law_order", PySem.Str.ofString "_law_done", PySem.Str.ofString "_law_is_even", PySem.Str.ofString "_law_one_right", PySem.Str.ofString "_law_times_right", PySem.Str.ofString "_law_behind_right", PySem.Str.ofString "_law_squares_right", PySem.Str.ofString "_law_right"]
def looseAll : List PySem.Str := loose0 ++ (loose1)
abbrev R : PySem.W.OpenRow := PySem.W.OpenLaw.row PySem.Challenge.rw_sheetdeals_k47_whole_deals_done_and_undo
abbrev hk : PySem.W.Hook := hookZ 5 ex fn
def ob (s : PySem.W.SharedT) : He.AlD := obsZG 5 ex fn (HandSHeadRun.getT s)
theorem ob_eq (s : PySem.W.SharedT) : ob s = hk.obs s.abs := obsZG_eq (HandSHeadRun.getT_eq s)
/-- the run -/
noncomputable abbrev RX (w : World) := HandSHeadRun.wholeF (fun p => HandSHeadRun.stepQ (HandSHeadRun.denQ HandSHeadRun.tabQ) p w) HandSHeadRun.fenceQ 9000 R.prog
def kOf (s : PySem.W.SharedT) : Fr' := He.frG (HandSHeadRun.getT s) (He.asD (HandSHeadRun.getT s) 5)
open PySem.W HandSHeadRun in
theorem run1 (w : World) : (RX w).map (fun x => (looksF R.prog x.1.heap x.2.abs, seenQ (view R.prog [0, 65]) looseAll (importedModules R.prog.main.body) (fun s => xlAt (view R.prog [0, 65]) [] s && recOk R.toRowW.records s) x.2.abs)) = some (true, openGood (view R.prog [0, 65]) looseAll) := by
  kernel_rfl
theorem run2 (w : World) : (RX w).map (fun x => ex.all fun f => f (kOf x.2)) = some true := by
  kernel_rfl
theorem run3 (w : World) : (RX w).map (fun x => fn.all fun d => d.ok (kOf x.2)) = some true := by
  kernel_rfl
theorem run4 (w : World) : (RX w).map (fun x => fn.map fun d => fnZ (kOf x.2) (d.adr (kOf x.2))) = some (fn.map DefZ.val) := by
  kernel_rfl
theorem joined {α β γ : Type} {X : Option α} {f1 : α → Bool × β} {f2 f3 : α → Bool} {f4 : α → γ} {G : α → Bool × β × (Bool × γ)} {b : β} {c : γ} (h1 : X.map f1 = some (true, b)) (h2 : X.map f2 = some true) (h3 : X.map f3 = some true) (h4 : X.map f4 = some c) (hG : ∀ x, G x = ((f1 x).1, (f1 x).2, (f2 x && f3 x, f4 x))) : X.map G = some (true, b, (true, c)) := by
  cases X with
  | none => cases h1
  | some x =>
    have e1 := Option.some.inj h1
    have e2 := Option.some.inj h2
    have e3 := Option.some.inj h3
    have e4 := Option.some.inj h4
    show some (G x) = _
    rw [hG x]
    simp only [e1, e2, e3, e4, Bool.and_self]
theorem run (w : World) : HandSHeadRun.RunEqI R (PySem.W.view R.prog [0, 65]) hk ob 9000 looseAll w := joined (run1 w) (run2 w) (run3 w) (run4 w) fun _ => rfl
end Q
end

section
set_option Elab.async false
set_option linter.all false
set_option maxRecDepth 100000
set_option maxHeartbeats 4000000
namespace Q
open PySem PySem.Spec PyProof.Rows L2 DL
noncomputable section
/-! is_integer -/
def N_is_integer : List Str := ["value"]
theorem S_is_integer : FnScope N_is_integer ["value"] (defScope (top 11)) := ⟨rfl, rfl, rfl, by decide +kernel, rfl, by decide +kernel, by decide +kernel⟩
def m_is_integer : MS := (mRet (mTV (mAnd (mB (mIsT "int" (mVar 0))) (mB (mTV (mNot (mB (mIsT "bool" (mVar 0)))))))))
def d_is_integer : List D → Mo D := runD 1 m_is_integer
theorem b_is_integer {P : Program} {w : World} {K : Fr'} {mg : Str → Option Value} {base : Heap} (Z : Zx P w K mg base) (cdv : Value) (A : Around) (outer : List Env) (s : Shared) (H : Hp) (E : XK) (hr : Room 0 (A.deeper (envOfC "is_integer" (defScope (top 11)) s.heap.objs.size (He.ga K "is_integer") cdv))) (hg : false = true → A.guards = some []) :
    PSsD (csK K) (cx0 P w K mg base N_is_integer "is_integer" (defScope (top 11)) (He.ga K "is_integer") cdv A outer s H E) (defBody (top 11)) m_is_integer := by
  exact (ss_one (s_ret (p_and (p_isT "int" Z.isi Z.fr_isinstance Z.fr_int (p_var 0)) (p_one (p_not (p_isT "bool" Z.isi Z.fr_isinstance Z.fr_bool (p_var 0)))))))
theorem w_is_integer {P : Program} {w : World} {K : Fr'} {mg : Str → Option Value} {base : Heap} (Z : Zx P w K mg base) : ∃ fd, FnD false P w K mg base 1 (He.ga K "is_integer") fd ["value"] (spD K (csK K) 1 d_is_integer) ∧ True ∧ PySem.W.keepIn K (.ref (He.ga K "is_integer")) = true ∧ Binds K fd ["value"] [] ∧ True := by
  obtain ⟨fd, D⟩ := Z.says.def_ 0 (d := z_is_integer)
  refine ⟨fd, fn_d (N := N_is_integer) D S_is_integer fun cdv A outer s H E hr hg => b_is_integer Z cdv A outer s H E hr hg, trivial, D.kp, D.bindsN (fun _ _ _ _ _ _ us hl => match us, hl with
    | [a0], _ => rfl), trivial⟩
/-! is_list -/
def N_is_list : List Str := ["value"]
theorem S_is_list : FnScope N_is_list ["value"] (defScope (top 13)) := ⟨rfl, rfl, rfl, by decide +kernel, rfl, by decide +kernel, by decide +kernel⟩
def m_is_list : MS := (mRet (mIsT2 "list" "tuple" (mVar 0)))
def d_is_list : List D → Mo D := runD 1 m_is_list
theorem b_is_list {P : Program} {w : World} {K : Fr'} {mg : Str → Option Value} {base : Heap} (Z : Zx P w K mg base) (cdv : Value) (A : Around) (outer : List Env) (s : Shared) (H : Hp) (E : XK) (hr : Room 0 (A.deeper (envOfC "is_list" (defScope (top 13)) s.heap.objs.size (He.ga K "is_list") cdv))) (hg : false = true → A.guards = some []) :
    PSsD (csK K) (cx0 P w K mg base N_is_list "is_list" (defScope (top 13)) (He.ga K "is_list") cdv A outer s H E) (defBody (top 13)) m_is_list := by
  exact (ss_one (s_ret (p_isT2 "list" "tuple" Z.isi Z.fr_isinstance Z.fr_list Z.fr_tuple (p_var 0))))
theorem w_is_list {P : Program} {w : World} {K : Fr'} {mg : Str → Option Value} {base : Heap} (Z : Zx P w K mg base) : ∃ fd, FnD false P w K mg base 1 (He.ga K "is_list") fd ["value"] (spD K (csK K) 1 d_is_list) ∧ True ∧ PySem.W.keepIn K (.ref (He.ga K "is_list")) = true ∧ Binds K fd ["value"] [] ∧ True := by
  obtain ⟨fd, D⟩ := Z.says.def_ 2 (d := z_is_list)
  refine ⟨fd, fn_d (N := N_is_list) D S_is_list fun cdv A outer s H E hr hg => b_is_list Z cdv A outer s H E hr hg, trivial, D.kp, D.bindsN (fun _ _ _ _ _ _ us hl => match us, hl with
    | [a0], _ => rfl), trivial⟩
/-! common_part -/
def N_common_part : List Str := ["one", "other"]
theorem S_common_part : FnScope N_common_part ["one", "other"] (defScope (top 17)) := ⟨rfl, rfl, rfl, by decide +kernel, rfl, by decide +kernel, by decide +kernel⟩
def m_common_part : MS := (mRet (mCall cGcd (mCons (mVar 0) (mCons (mVar 1) mNil))))
def d_common_part : List D → Mo D := runD 2 m_common_part
theorem b_common_part {P : Program} {w : World} {K : Fr'} {mg : Str → Option Value} {base : Heap} (Z : Zx P w K mg base) (cdv : Value) (A : Around) (outer : List Env) (s : Shared) (H : Hp) (E : XK) (hr : Room 0 (A.deeper (envOfC "common_part" (defScope (top 17)) s.heap.objs.size (He.ga K "common_part") cdv))) (hg : false = true → A.guards = some []) :
    PSsD (csK K) (cx0 P w K mg base N_common_part "common_part" (defScope (top 17)) (He.ga K "common_part") cdv A outer s H E) (defBody (top 17)) m_common_part := by
  exact (ss_one (s_ret (p_bfun ca_gcd Z.bi_gcd (DL.pa_cons (p_var 0) (DL.pa_cons (p_var 1) DL.pa_nil)))))
theorem w_common_part {P : Program} {w : World} {K : Fr'} {mg : Str → Option Value} {base : Heap} (Z : Zx P w K mg base) : ∃ fd, FnD false P w K mg base 1 (He.ga K "common_part") fd ["one", "other"] (spD K (csK K) 2 d_common_part) ∧ True ∧ PySem.W.keepIn K (.ref (He.ga K "common_part")) = true ∧ Binds K fd ["one", "other"] [] ∧ True := by
  obtain ⟨fd, D⟩ := Z.says.def_ 3 (d := z_common_part)
  refine ⟨fd, fn_d (N := N_common_part) D S_common_part fun cdv A outer s H E hr hg => b_common_part Z cdv A outer s H E hr hg, trivial, D.kp, D.bindsN (fun _ _ _ _ _ _ us hl => match us, hl with
    | [a0, a1], _ => rfl), trivial⟩
/-! Ratio.__init__ -/
def N_Ratio___init__ : List Str := ["self", "top", "bottom", "common"]
theorem S_Ratio___init__ : FnScope N_Ratio___init__ ["self", "top", "bottom"] (defScope (inClass (top 18) 0)) := ⟨rfl, rfl, rfl, by decide +kernel, rfl, by decide +kernel, by decide +kernel⟩
def m_Ratio___init__ : MS := (mSeq (mIfS (mNot (mB (mCall (lenM 1 d_is_integer) (mCons (mVar 1) mNil)))) mNever mNx) (mSeq (mIfS (mOr (mNot (mB (mCall (lenM 1 d_is_integer) (mCons (mVar 2) mNil)))) (mB (mBin (dEqF false) (mVar 2) (mC (.int 0))))) mNever mNx) (mSeq (mSet 3 (mCall (lenM 2 d_common_part) (mCons (mVar 1) (mCons (mVar 2) mNil)))) (mSeq (mIfS (mB (mBin dLt (mVar 2) (mC (.int 0)))) (mSet 3 (mBin dSubI (mC (.int 0)) (mVar 3))) mNx) (mSeq (mFldAt 0 0 0 (mBin dDivI (mVar 1) (mVar 3))) (mFldAt 0 0 1 (mBin dDivI (mVar 2) (mVar 3))))))))
def d_Ratio___init__ : List D → Mo D := runI 4 0 2 m_Ratio___init__
theorem b_Ratio___init__ {P : Program} {w : World} {K : Fr'} {mg : Str → Option Value} {base : Heap} (Z : Zx P w K mg base) (cdv : Value) (A : Around) (outer : List Env) (s : Shared) (H : Hp) (E : XK) (hr : Room 1 (A.deeper (envOfC "Ratio.__init__" (defScope (inClass (top 18) 0)) s.heap.objs.size (He.ma K (He.ga K "Ratio") "__init__") cdv))) (hg : false = true → A.guards = some []) :
    PSsD (csK K) (cx0 P w K mg base N_Ratio___init__ "Ratio.__init__" (defScope (inClass (top 18) 0)) (He.ma K (He.ga K "Ratio") "__init__") cdv A outer s H E) (defBody (inClass (top 18) 0)) m_Ratio___init__ := by
  obtain ⟨fd_common_part, F_common_part, FO_common_part, hk_common_part, hb_common_part, _⟩ := w_common_part Z
  obtain ⟨fd_is_integer, F_is_integer, FO_is_integer, hk_is_integer, hb_is_integer, _⟩ := w_is_integer Z
  exact (ss_cons (s_if (DL.pt_not (pt_v (p_call F_is_integer (hr.mono (by decide)) (fun (z : false = true) => nomatch z) (Z.glo_is_integer) hk_is_integer hb_is_integer (DL.pa_cons (p_var 1) DL.pa_nil)))) (ss_one s_never) ss_nil) (ss_cons (s_if (PWD.pt (DL.pw_or (DL.pt_not (pt_v (p_call F_is_integer (hr.mono (by decide)) (fun (z : false = true) => nomatch z) (Z.glo_is_integer) hk_is_integer hb_is_integer (DL.pa_cons (p_var 2) DL.pa_nil)))) (pw_one (pt_cmp (op_eqF false) (p_var 2) p_int rfl)))) (ss_one s_never) ss_nil) (ss_cons (s_set 3 S_Ratio___init__.nd (p_call F_common_part (hr.mono (by decide)) (fun (z : false = true) => nomatch z) (Z.glo_common_part) hk_common_part hb_common_part (DL.pa_cons (p_var 1) (DL.pa_cons (p_var 2) DL.pa_nil)))) (ss_cons (s_if (pt_cmp op_ltI (p_var 2) p_int rfl) (ss_one (s_set 3 S_Ratio___init__.nd (p_bin op_subI p_int (p_var 3)))) ss_nil) (ss_cons (s_fld 0 0 Z.cl0 Z.no_Ratio_own_top (p_bin op_divI (p_var 1) (p_var 3))) (ss_one (s_fld 0 1 Z.cl0 Z.no_Ratio_own_bottom (p_bin op_divI (p_var 2) (p_var 3)))))))))
theorem w_Ratio___init__ {P : Program} {w : World} {K : Fr'} {mg : Str → Option Value} {base : Heap} (Z : Zx P w K mg base) : ∃ fd, FnD false P w K mg base 2 (He.ma K (He.ga K "Ratio") "__init__") fd ["self", "top", "bottom"] (spMk K (csK K) (He.ga K "Ratio") 2 d_Ratio___init__) ∧ (∃ ds, Vals (([.int 1] : List He.Dv).map (He.Dv.v K) |>.drop 0) ds ∧ Binds K fd ["self", "top", "bottom"] ds) ∧ (∃ ds, Vals (([.int 1] : List He.Dv).map (He.Dv.v K) |>.drop 1) ds ∧ Binds K fd ["self", "top", "bottom"] ds) := by
  obtain ⟨fd, D⟩ := Z.says.def_ 4 (d := z_Ratio___init__)
  refine ⟨fd, fn_i (N := N_Ratio___init__) Z.cl0 D S_Ratio___init__ rfl fun cdv A outer s H E hr hg => b_Ratio___init__ Z cdv A outer s H E hr hg, ?_, ?_⟩
  · exact D.binds1 2 0 (by simp [z_Ratio___init__, DefZ.dvs]) (by rfl) (fun _ _ _ _ _ _ _ us its hl hi => match us, its, hl, hi with
    | [a0, a1], [b0], _, _ => ⟨_, rfl, rfl⟩)
  · exact D.binds1 3 1 (by simp [z_Ratio___init__, DefZ.dvs]) (by rfl) (fun _ _ _ _ _ _ _ us its hl hi => match us, its, hl, hi with
    | [a0, a1, a2], [b0], _, _ => ⟨_, rfl, rfl⟩)
def mk_Ratio_1 (fm : List D → Mo D) : List D → Mo D := fun ds => lenM 1 (fun ds => fm (ds ++ [.int 1])) ds
theorem mkW_Ratio_1 {P : Program} {w : World} {K : Fr'} {mg : Str → Option Value} {base : Heap} {X : Cx} {e0 : Expr} {p pos : Pos} {mm : Env' → Mo (List D)} (Z : Zx P w K mg base) (hr : Room 3 X.A) (ha : PAD (csK K) X [e0] mm) (hX : X.prog = P ∧ X.w = w ∧ X.K = K ∧ X.mg = mg ∧ X.base = base := by exact ⟨rfl, rfl, rfl, rfl, rfl⟩) (hg : Gl X "Ratio" := by rfl)
    (he : starEach [e0] X.env = (false, eval e0 X.env) :: starEach [] X.env := by rfl) (hpl : (backTo pos (starEach [] X.env)).any (·.1) = false := by rfl) : PED (csK K) X (.Call (.Name "Ratio" p) [e0] [] pos) (mCall (mk_Ratio_1 d_Ratio___init__) mm) := by
  obtain ⟨rfl, rfl, rfl, rfl, rfl⟩ := hX
  obtain ⟨fd, F, ⟨ds0, v0, b0⟩, ⟨ds1, v1, b1⟩⟩ := w_Ratio___init__ Z
  exact p_make (n := 1) (dds := [.int 1]) Z.mkr_Ratio F.ok hr Z.glo_Ratio b0 v0 (fun ap B => (reps_cons (by simp only [Rep]; rfl) reps_nil)) ha hg (by decide) he hpl
def mk_Ratio_2 (fm : List D → Mo D) : List D → Mo D := fun ds => lenM 2 (fun ds => fm (ds ++ [])) ds
theorem mkW_Ratio_2 {P : Program} {w : World} {K : Fr'} {mg : Str → Option Value} {base : Heap} {X : Cx} {e0 e1 : Expr} {p pos : Pos} {mm : Env' → Mo (List D)} (Z : Zx P w K mg base) (hr : Room 3 X.A) (ha : PAD (csK K) X [e0, e1] mm) (hX : X.prog = P ∧ X.w = w ∧ X.K = K ∧ X.mg = mg ∧ X.base = base := by exact ⟨rfl, rfl, rfl, rfl, rfl⟩) (hg : Gl X "Ratio" := by rfl)
    (he : starEach [e0, e1] X.env = (false, eval e0 X.env) :: starEach [e1] X.env := by rfl) (hpl : (backTo pos (starEach [e1] X.env)).any (·.1) = false := by rfl) : PED (csK K) X (.Call (.Name "Ratio" p) [e0, e1] [] pos) (mCall (mk_Ratio_2 d_Ratio___init__) mm) := by
  obtain ⟨rfl, rfl, rfl, rfl, rfl⟩ := hX
  obtain ⟨fd, F, ⟨ds0, v0, b0⟩, ⟨ds1, v1, b1⟩⟩ := w_Ratio___init__ Z
  exact p_make (n := 2) (dds := []) Z.mkr_Ratio F.ok hr Z.glo_Ratio b1 v1 (fun ap B => reps_nil) ha hg (by decide) he hpl
/-! Ratio.top -/
def N_Ratio_top : List Str := ["self"]
theorem S_Ratio_top : FnScope N_Ratio_top ["self"] (defScope (inClass (top 18) 1)) := ⟨rfl, rfl, rfl, by decide +kernel, rfl, by decide +kernel, by decide +kernel⟩
def m_Ratio_top : MS := (mRet (mFld 0 0 (mVar 0)))
def d_Ratio_top : List D → Mo D := runD 1 m_Ratio_top
theorem b_Ratio_top {P : Program} {w : World} {K : Fr'} {mg : Str → Option Value} {base : Heap} (Z : Zx P w K mg base) (cdv : Value) (A : Around) (outer : List Env) (s : Shared) (H : Hp) (E : XK) (hr : Room 0 (A.deeper (envOfC "Ratio.top" (defScope (inClass (top 18) 1)) s.heap.objs.size (proG K (He.ga K "Ratio") "top") cdv))) (hg : false = true → A.guards = some []) :
    PSsD (csK K) (cx0 P w K mg base N_Ratio_top "Ratio.top" (defScope (inClass (top 18) 1)) (proG K (He.ga K "Ratio") "top") cdv A outer s H E) (defBody (inClass (top 18) 1)) m_Ratio_top := by
  exact (ss_one (s_ret (p_fld 0 (Z.cl0) Z.no_Ratio_own_top (p_var 0))))
theorem w_Ratio_top {P : Program} {w : World} {K : Fr'} {mg : Str → Option Value} {base : Heap} (Z : Zx P w K mg base) : ∃ fd, FnD false P w K mg base 1 (proG K (He.ga K "Ratio") "top") fd ["self"] (spD K (csK K) 1 d_Ratio_top) ∧ True ∧ PySem.W.keepIn K (.ref (proG K (He.ga K "Ratio") "top")) = true ∧ Binds K fd ["self"] [] ∧ True := by
  obtain ⟨fd, D⟩ := Z.says.def_ 5 (d := z_Ratio_top)
  refine ⟨fd, fn_d (N := N_Ratio_top) D S_Ratio_top fun cdv A outer s H E hr hg => b_Ratio_top Z cdv A outer s H E hr hg, trivial, D.kp, D.bindsN (fun _ _ _ _ _ _ us hl => match us, hl with
    | [a0], _ => rfl), trivial⟩
/-! Ratio.bottom -/
def N_Ratio_bottom : List Str := ["self"]
theorem S_Ratio_bottom : FnScope N_Ratio_bottom ["self"] (defScope (inClass (top 18) 2)) := ⟨rfl, rfl, rfl, by decide +kernel, rfl, by decide +kernel, by decide +kernel⟩
def m_Ratio_bottom : MS := (mRet (mFld 0 1 (mVar 0)))
def d_Ratio_bottom : List D → Mo D := runD 1 m_Ratio_bottom
theorem b_Ratio_bottom {P : Program} {w : World} {K : Fr'} {mg : Str → Option Value} {base : Heap} (Z : Zx P w K mg base) (cdv : Value) (A : Around) (outer : List Env) (s : Shared) (H : Hp) (E : XK) (hr : Room 0 (A.deeper (envOfC "Ratio.bottom" (defScope (inClass (top 18) 2)) s.heap.objs.size (proG K (He.ga K "Ratio") "bottom") cdv))) (hg : false = true → A.guards = some []) :
    PSsD (csK K) (cx0 P w K mg base N_Ratio_bottom "Ratio.bottom" (defScope (inClass (top 18) 2)) (proG K (He.ga K "Ratio") "bottom") cdv A outer s H E) (defBody (inClass (top 18) 2)) m_Ratio_bottom := by
  exact (ss_one (s_ret (p_fld 1 (Z.cl0) Z.no_Ratio_own_bottom (p_var 0))))
theorem w_Ratio_bottom {P : Program} {w : World} {K : Fr'} {mg : Str → Option Value} {base : Heap} (Z : Zx P w K mg base) : ∃ fd, FnD false P w K mg base 1 (proG K (He.ga K "Ratio") "bottom") fd ["self"] (spD K (csK K) 1 d_Ratio_bottom) ∧ True ∧ PySem.W.keepIn K (.ref (proG K (He.ga K "Ratio") "bottom")) = true ∧ Binds K fd ["self"] [] ∧ True := by
  obtain ⟨fd, D⟩ := Z.says.def_ 6 (d := z_Ratio_bottom)
  refine ⟨fd, fn_d (N := N_Ratio_bottom) D S_Ratio_bottom fun cdv A outer s H E hr hg => b_Ratio_bottom Z cdv A outer s H E hr hg, trivial, D.kp, D.bindsN (fun _ _ _ _ _ _ us hl => match us, hl with
    | [a0], _ => rfl), trivial⟩
end
end Q
end

section
set_option Elab.async false
set_option linter.all false
set_option maxRecDepth 100000
set_option maxHeartbeats 4000000
/-! no classes of its own: ==, repr. -/
namespace Q
open PySem PySem.Spec PyProof.Rows L2 DL
def uq : Nat → List D → List D → Option Bool := fun _ _ _ => none
def ur (c : Nat) (fs : List D) : Option Str := none
section
variable {P : Program} {w : World} {K : Fr'} {mg : Str → Option Value} {base : Heap} {X : Cx}
theorem ueq (Z : Zx X.prog X.w X.K X.mg X.base) : UEq X (csK X.K) 1 uq := by
  refine ⟨fun c fs gs b h => (nomatch (show (none : Option Bool) = some b from h)), fun c fs b h => (nomatch (show (none : Option Bool) = some b from h)), Z.inj⟩
theorem urep (Z : Zx X.prog X.w X.K X.mg X.base) : URep X (csK X.K) 2 ur := by
  refine ⟨fun c fs t h => (nomatch (show (none : Option Str) = some t from h)), Z.inj⟩
def dEqU (ne : Bool) : D → D → Mo D := dEqR uq 4 ne
theorem op_eqU (Z : Zx P w K mg base) (hr : Room 6 X.A) (ne : Bool) (hX : X.prog = P ∧ X.w = w ∧ X.K = K ∧ X.mg = mg ∧ X.base = base := by exact ⟨rfl, rfl, rfl, rfl, rfl⟩) : OpD (csK K) X (compareOp (DQ.opC ne)) (dEqU ne) := by
  obtain ⟨rfl, rfl, rfl, rfl, rfl⟩ := hX
  exact opD_eqR (k := 1) 4 (ueq Z) hr ne
noncomputable def cReprU : List D → Mo D := cRepr ur 3
theorem ca_reprU (Z : Zx P w K mg base) (hr : Room 7 X.A) (hg : X.A.guards = some []) (hX : X.prog = P ∧ X.w = w ∧ X.K = K ∧ X.mg = mg ∧ X.base = base := by exact ⟨rfl, rfl, rfl, rfl, rfl⟩) : CaD (csK K) X (.builtin "repr") cReprU := by
  obtain ⟨rfl, rfl, rfl, rfl, rfl⟩ := hX
  exact ca_repr (k := 2) 3 (urep Z) hr hg
def dAddU : D → D → Mo D := dOr dAddI dCatL
theorem op_addU (Z : Zx P w K mg base) (hr : Room 1 X.A) (hX : X.prog = P ∧ X.w = w ∧ X.K = K ∧ X.mg = mg ∧ X.base = base := by exact ⟨rfl, rfl, rfl, rfl, rfl⟩) : OpD (csK K) X (binaryOp .Add) dAddU := .or op_addI op_catL
end
end Q
end

section
set_option Elab.async false
set_option linter.all false
set_option maxRecDepth 100000
set_option maxHeartbeats 4000000
namespace Q
open PySem PySem.Spec PyProof.Rows L2 DL
noncomputable section
/-! is_count -/
def N_is_count : List Str := ["value"]
theorem S_is_count : FnScope N_is_count ["value"] (defScope (top 12)) := ⟨rfl, rfl, rfl, by decide +kernel, rfl, by decide +kernel, by decide +kernel⟩
def m_is_count : MS := (mRet (mTV (mAnd (mB (mCall (lenM 1 d_is_integer) (mCons (mVar 0) mNil))) (mB (mBin dGe (mVar 0) (mC (.int 0)))))))
def d_is_count : List D → Mo D := runD 1 m_is_count
theorem b_is_count {P : Program} {w : World} {K : Fr'} {mg : Str → Option Value} {base : Heap} (Z : Zx P w K mg base) (cdv : Value) (A : Around) (outer : List Env) (s : Shared) (H : Hp) (E : XK) (hr : Room 1 (A.deeper (envOfC "is_count" (defScope (top 12)) s.heap.objs.size (He.ga K "is_count") cdv))) (hg : false = true → A.guards = some []) :
    PSsD (csK K) (cx0 P w K mg base N_is_count "is_count" (defScope (top 12)) (He.ga K "is_count") cdv A outer s H E) (defBody (top 12)) m_is_count := by
  obtain ⟨fd_is_integer, F_is_integer, FO_is_integer, hk_is_integer, hb_is_integer, _⟩ := w_is_integer Z
  exact (ss_one (s_ret (p_and (p_call F_is_integer (hr.mono (by decide)) (fun (z : false = true) => nomatch z) (Z.glo_is_integer) hk_is_integer hb_is_integer (DL.pa_cons (p_var 0) DL.pa_nil)) (p_one (p_cmp op_geI (p_var 0) p_int rfl)))))
theorem w_is_count {P : Program} {w : World} {K : Fr'} {mg : Str → Option Value} {base : Heap} (Z : Zx P w K mg base) : ∃ fd, FnD false P w K mg base 2 (He.ga K "is_count") fd ["value"] (spD K (csK K) 1 d_is_count) ∧ True ∧ PySem.W.keepIn K (.ref (He.ga K "is_count")) = true ∧ Binds K fd ["value"] [] ∧ True := by
  obtain ⟨fd, D⟩ := Z.says.def_ 1 (d := z_is_count)
  refine ⟨fd, fn_d (N := N_is_count) D S_is_count fun cdv A outer s H E hr hg => b_is_count Z cdv A outer s H E hr hg, trivial, D.kp, D.bindsN (fun _ _ _ _ _ _ us hl => match us, hl with
    | [a0], _ => rfl), trivial⟩
/-! told_pair -/
def N_told_pair : List Str := ["value"]
theorem S_told_pair : FnScope N_told_pair ["value"] (defScope (top 19)) := ⟨rfl, rfl, rfl, by decide +kernel, rfl, by decide +kernel, by decide +kernel⟩
def m_told_pair : MS := (mSeq (mIfS (mB (mIsC 0 (mVar 0))) (mRet (mTup (mCons (mFld 0 0 (mVar 0)) (mCons (mFld 0 1 (mVar 0)) mNil)))) mNx) (mSeq (mIfS (mNot (mB (mCall (lenM 1 d_is_integer) (mCons (mVar 0) mNil)))) mNever mNx) (mRet (mTup (mCons (mVar 0) (mCons (mC (.int 1)) mNil))))))
def d_told_pair : List D → Mo D := runD 1 m_told_pair
theorem b_told_pair {P : Program} {w : World} {K : Fr'} {mg : Str → Option Value} {base : Heap} (Z : Zx P w K mg base) (cdv : Value) (A : Around) (outer : List Env) (s : Shared) (H : Hp) (E : XK) (hr : Room 1 (A.deeper (envOfC "told_pair" (defScope (top 19)) s.heap.objs.size (He.ga K "told_pair") cdv))) (hg : false = true → A.guards = some []) :
    PSsD (csK K) (cx0 P w K mg base N_told_pair "told_pair" (defScope (top 19)) (He.ga K "told_pair") cdv A outer s H E) (defBody (top 19)) m_told_pair := by
  obtain ⟨fd_is_integer, F_is_integer, FO_is_integer, hk_is_integer, hb_is_integer, _⟩ := w_is_integer Z
  exact (ss_cons (s_if (pt_v (p_isC Z.isi (Z.cl0).at_ Z.fr_isinstance Z.glo_Ratio (p_var 0))) (ss_one (s_ret (p_tup (DL.pa_cons (p_fld 0 (Z.cl0) Z.no_Ratio_own_top (p_var 0)) (DL.pa_cons (p_fld 1 (Z.cl0) Z.no_Ratio_own_bottom (p_var 0)) DL.pa_nil))))) ss_nil) (ss_cons (s_if (DL.pt_not (pt_v (p_call F_is_integer (hr.mono (by decide)) (fun (z : false = true) => nomatch z) (Z.glo_is_integer) hk_is_integer hb_is_integer (DL.pa_cons (p_var 0) DL.pa_nil)))) (ss_one s_never) ss_nil) (ss_one (s_ret (p_tup (DL.pa_cons (p_var 0) (DL.pa_cons p_int DL.pa_nil)))))))
theorem w_told_pair {P : Program} {w : World} {K : Fr'} {mg : Str → Option Value} {base : Heap} (Z : Zx P w K mg base) : ∃ fd, FnD false P w K mg base 2 (He.ga K "told_pair") fd ["value"] (spD K (csK K) 1 d_told_pair) ∧ True ∧ PySem.W.keepIn K (.ref (He.ga K "told_pair")) = true ∧ Binds K fd ["value"] [] ∧ True := by
  obtain ⟨fd, D⟩ := Z.says.def_ 7 (d := z_told_pair)
  refine ⟨fd, fn_d (N := N_told_pair) D S_told_pair fun cdv A outer s H E hr hg => b_told_pair Z cdv A outer s H E hr hg, trivial, D.kp, D.bindsN (fun _ _ _ _ _ _ us hl => match us, hl with
    | [a0], _ => rfl), trivial⟩
/-! is_number -/
def N_is_number : List Str := ["value"]
theorem S_is_number : FnScope N_is_number ["value"] (defScope (top 20)) := ⟨rfl, rfl, rfl, by decide +kernel, rfl, by decide +kernel, by decide +kernel⟩
def m_is_number : MS := (mRet (mTV (mOr (mB (mCall (lenM 1 d_is_integer) (mCons (mVar 0) mNil))) (mB (mIsC 0 (mVar 0))))))
def d_is_number : List D → Mo D := runD 1 m_is_number
theorem b_is_number {P : Program} {w : World} {K : Fr'} {mg : Str → Option Value} {base : Heap} (Z : Zx P w K mg base) (cdv : Value) (A : Around) (outer : List Env) (s : Shared) (H : Hp) (E : XK) (hr : Room 1 (A.deeper (envOfC "is_number" (defScope (top 20)) s.heap.objs.size (He.ga K "is_number") cdv))) (hg : false = true → A.guards = some []) :
    PSsD (csK K) (cx0 P w K mg base N_is_number "is_number" (defScope (top 20)) (He.ga K "is_number") cdv A outer s H E) (defBody (top 20)) m_is_number := by
  obtain ⟨fd_is_integer, F_is_integer, FO_is_integer, hk_is_integer, hb_is_integer, _⟩ := w_is_integer Z
  exact (ss_one (s_ret (p_or (p_call F_is_integer (hr.mono (by decide)) (fun (z : false = true) => nomatch z) (Z.glo_is_integer) hk_is_integer hb_is_integer (DL.pa_cons (p_var 0) DL.pa_nil)) (p_one (p_isC Z.isi (Z.cl0).at_ Z.fr_isinstance Z.glo_Ratio (p_var 0))))))
theorem w_is_number {P : Program} {w : World} {K : Fr'} {mg : Str → Option Value} {base : Heap} (Z : Zx P w K mg base) : ∃ fd, FnD false P w K mg base 2 (He.ga K "is_number") fd ["value"] (spD K (csK K) 1 d_is_number) ∧ True ∧ PySem.W.keepIn K (.ref (He.ga K "is_number")) = true ∧ Binds K fd ["value"] [] ∧ True := by
  obtain ⟨fd, D⟩ := Z.says.def_ 8 (d := z_is_number)
  refine ⟨fd, fn_d (N := N_is_number) D S_is_number fun cdv A outer s H E hr hg => b_is_number Z cdv A outer s H E hr hg, trivial, D.kp, D.bindsN (fun _ _ _ _ _ _ us hl => match us, hl with
    | [a0], _ => rfl), trivial⟩
/-! ratio_of -/
def N_ratio_of : List Str := ["number"]
theorem S_ratio_of : FnScope N_ratio_of ["number"] (defScope (top 21)) := ⟨rfl, rfl, rfl, by decide +kernel, rfl, by decide +kernel, by decide +kernel⟩
def m_ratio_of : MS := (mRet (mIf (mB (mIsC 0 (mVar 0))) (mVar 0) (mCall (mk_Ratio_1 d_Ratio___init__) (mCons (mVar 0) mNil))))
def d_ratio_of : List D → Mo D := runD 1 m_ratio_of
theorem b_ratio_of {P : Program} {w : World} {K : Fr'} {mg : Str → Option Value} {base : Heap} (Z : Zx P w K mg base) (cdv : Value) (A : Around) (outer : List Env) (s : Shared) (H : Hp) (E : XK) (hr : Room 3 (A.deeper (envOfC "ratio_of" (defScope (top 21)) s.heap.objs.size (He.ga K "ratio_of") cdv))) (hg : false = true → A.guards = some []) :
    PSsD (csK K) (cx0 P w K mg base N_ratio_of "ratio_of" (defScope (top 21)) (He.ga K "ratio_of") cdv A outer s H E) (defBody (top 21)) m_ratio_of := by
  exact (ss_one (s_ret (p_if (pt_v (p_isC Z.isi (Z.cl0).at_ Z.fr_isinstance Z.glo_Ratio (p_var 0))) (p_var 0) (mkW_Ratio_1 Z (hr.mono (by decide)) (DL.pa_cons (p_var 0) DL.pa_nil)))))
theorem w_ratio_of {P : Program} {w : World} {K : Fr'} {mg : Str → Option Value} {base : Heap} (Z : Zx P w K mg base) : ∃ fd, FnD false P w K mg base 4 (He.ga K "ratio_of") fd ["number"] (spD K (csK K) 1 d_ratio_of) ∧ True ∧ PySem.W.keepIn K (.ref (He.ga K "ratio_of")) = true ∧ Binds K fd ["number"] [] ∧ True := by
  obtain ⟨fd, D⟩ := Z.says.def_ 9 (d := z_ratio_of)
  refine ⟨fd, fn_d (N := N_ratio_of) D S_ratio_of fun cdv A outer s H E hr hg => b_ratio_of Z cdv A outer s H E hr hg, trivial, D.kp, D.bindsN (fun _ _ _ _ _ _ us hl => match us, hl with
    | [a0], _ => rfl), trivial⟩
/-! want_number -/
def N_want_number : List Str := ["value"]
theorem S_want_number : FnScope N_want_number ["value"] (defScope (top 22)) := ⟨rfl, rfl, rfl, by decide +kernel, rfl, by decide +kernel, by decide +kernel⟩
def m_want_number : MS := (mSeq (mIfS (mNot (mB (mCall (lenM 1 d_is_number) (mCons (mVar 0) mNil)))) mNever mNx) (mRet (mCall (lenM 1 d_ratio_of) (mCons (mVar 0) mNil))))
def d_want_number : List D → Mo D := runD 1 m_want_number
theorem b_want_number {P : Program} {w : World} {K : Fr'} {mg : Str → Option Value} {base : Heap} (Z : Zx P w K mg base) (cdv : Value) (A : Around) (outer : List Env) (s : Shared) (H : Hp) (E : XK) (hr : Room 4 (A.deeper (envOfC "want_number" (defScope (top 22)) s.heap.objs.size (He.ga K "want_number") cdv))) (hg : false = true → A.guards = some []) :
    PSsD (csK K) (cx0 P w K mg base N_want_number "want_number" (defScope (top 22)) (He.ga K "want_number") cdv A outer s H E) (defBody (top 22)) m_want_number := by
  obtain ⟨fd_is_number, F_is_number, FO_is_number, hk_is_number, hb_is_number, _⟩ := w_is_number Z
  obtain ⟨fd_ratio_of, F_ratio_of, FO_ratio_of, hk_ratio_of, hb_ratio_of, _⟩ := w_ratio_of Z
  exact (ss_cons (s_if (DL.pt_not (pt_v (p_call F_is_number (hr.mono (by decide)) (fun (z : false = true) => nomatch z) (Z.glo_is_number) hk_is_number hb_is_number (DL.pa_cons (p_var 0) DL.pa_nil)))) (ss_one s_never) ss_nil) (ss_one (s_ret (p_call F_ratio_of (hr.mono (by decide)) (fun (z : false = true) => nomatch z) (Z.glo_ratio_of) hk_ratio_of hb_ratio_of (DL.pa_cons (p_var 0) DL.pa_nil)))))
theorem w_want_number {P : Program} {w : World} {K : Fr'} {mg : Str → Option Value} {base : Heap} (Z : Zx P w K mg base) : ∃ fd, FnD false P w K mg base 5 (He.ga K "want_number") fd ["value"] (spD K (csK K) 1 d_want_number) ∧ True ∧ PySem.W.keepIn K (.ref (He.ga K "want_number")) = true ∧ Binds K fd ["value"] [] ∧ True := by
  obtain ⟨fd, D⟩ := Z.says.def_ 10 (d := z_want_number)
  refine ⟨fd, fn_d (N := N_want_number) D S_want_number fun cdv A outer s H E hr hg => b_want_number Z cdv A outer s H E hr hg, trivial, D.kp, D.bindsN (fun _ _ _ _ _ _ us hl => match us, hl with
    | [a0], _ => rfl), trivial⟩
/-! want_prime -/
def N_want_prime : List Str := ["prime"]
theorem S_want_prime : FnScope N_want_prime ["prime"] (defScope (top 25)) := ⟨rfl, rfl, rfl, by decide +kernel, rfl, by decide +kernel, by decide +kernel⟩
def m_want_prime : MS := (mIfS (mOr (mNot (mB (mCall (lenM 1 d_is_integer) (mCons (mVar 0) mNil)))) (mB (mBin (dInF true) (mVar 0) (mC (.tup (([3, 5, 7, 11] : List Int).map .int)))))) mNever mNx)
def d_want_prime : List D → Mo D := runD 1 m_want_prime
theorem b_want_prime {P : Program} {w : World} {K : Fr'} {mg : Str → Option Value} {base : Heap} (Z : Zx P w K mg base) (cdv : Value) (A : Around) (outer : List Env) (s : Shared) (H : Hp) (E : XK) (hr : Room 1 (A.deeper (envOfC "want_prime" (defScope (top 25)) s.heap.objs.size (He.ga K "want_prime") cdv))) (hg : false = true → A.guards = some []) :
    PSsD (csK K) (cx0 P w K mg base N_want_prime "want_prime" (defScope (top 25)) (He.ga K "want_prime") cdv A outer s H E) (defBody (top 25)) m_want_prime := by
  obtain ⟨fd_is_integer, F_is_integer, FO_is_integer, hk_is_integer, hb_is_integer, _⟩ := w_is_integer Z
  obtain ⟨t_PRIMES, h_PRIMES, hs_PRIMES⟩ := Z.c_PRIMES
  exact (ss_one (s_if (PWD.pt (DL.pw_or (DL.pt_not (pt_v (p_call F_is_integer (hr.mono (by decide)) (fun (z : false = true) => nomatch z) (Z.glo_is_integer) hk_is_integer hb_is_integer (DL.pa_cons (p_var 0) DL.pa_nil)))) (pw_one (pt_cmp (op_inF true) (p_var 0) (p_gtup rfl h_PRIMES hs_PRIMES) rfl)))) (ss_one s_never) ss_nil))
theorem w_want_prime {P : Program} {w : World} {K : Fr'} {mg : Str → Option Value} {base : Heap} (Z : Zx P w K mg base) : ∃ fd, FnD false P w K mg base 2 (He.ga K "want_prime") fd ["prime"] (spD K (csK K) 1 d_want_prime) ∧ True ∧ PySem.W.keepIn K (.ref (He.ga K "want_prime")) = true ∧ Binds K fd ["prime"] [] ∧ True := by
  obtain ⟨fd, D⟩ := Z.says.def_ 11 (d := z_want_prime)
  refine ⟨fd, fn_d (N := N_want_prime) D S_want_prime fun cdv A outer s H E hr hg => b_want_prime Z cdv A outer s H E hr hg, trivial, D.kp, D.bindsN (fun _ _ _ _ _ _ us hl => match us, hl with
    | [a0], _ => rfl), trivial⟩
/-! undone_rest -/
def N_undone_rest : List Str := ["number", "prime", "count"]
theorem S_undone_rest : FnScope N_undone_rest ["number", "prime"] (defScope (top 26)) := ⟨rfl, rfl, rfl, by decide +kernel, rfl, by decide +kernel, by decide +kernel⟩
def m_undone_rest : MS := (mSeq (mFor (srcR2 (mCons (mC (.int 1)) (mCons (mVar 1) mNil))) (tgN 2) (mIfS (mB (mBin (dEqF false) (mBin dModI (mCall cInt (mCons (mBin dMulI (mVar 0) (mVar 2)) mNil)) (mVar 1)) (mC (.int 1)))) (mRet (mVar 2)) mNx)) (mRet (mC .non)))
def d_undone_rest : List D → Mo D := runD 3 m_undone_rest
theorem b_undone_rest {P : Program} {w : World} {K : Fr'} {mg : Str → Option Value} {base : Heap} (Z : Zx P w K mg base) (cdv : Value) (A : Around) (outer : List Env) (s : Shared) (H : Hp) (E : XK) (hr : Room 0 (A.deeper (envOfC "undone_rest" (defScope (top 26)) s.heap.objs.size (He.ga K "undone_rest") cdv))) (hg : false = true → A.guards = some []) :
    PSsD (csK K) (cx0 P w K mg base N_undone_rest "undone_rest" (defScope (top 26)) (He.ga K "undone_rest") cdv A outer s H E) (defBody (top 26)) m_undone_rest := by
  exact (ss_cons (s_for PassesOwn.never rfl (i_range2 Z.fr_range (DL.pa_cons p_int (DL.pa_cons (p_var 1) DL.pa_nil))) (g_name 2 S_undone_rest.nd) (ss_one (s_if (pt_cmp (op_eqF false) (p_bin op_modI (p_type ca_int Z.fr_int (DL.pa_cons (p_bin op_mulI (p_var 0) (p_var 2)) DL.pa_nil)) (p_var 1)) p_int rfl) (ss_one (s_ret (p_var 2))) ss_nil))) (ss_one (s_ret p_non)))
theorem w_undone_rest {P : Program} {w : World} {K : Fr'} {mg : Str → Option Value} {base : Heap} (Z : Zx P w K mg base) : ∃ fd, FnD false P w K mg base 1 (He.ga K "undone_rest") fd ["number", "prime"] (spD K (csK K) 2 d_undone_rest) ∧ True ∧ PySem.W.keepIn K (.ref (He.ga K "undone_rest")) = true ∧ Binds K fd ["number", "prime"] [] ∧ True := by
  obtain ⟨fd, D⟩ := Z.says.def_ 12 (d := z_undone_rest)
  refine ⟨fd, fn_d (N := N_undone_rest) D S_undone_rest fun cdv A outer s H E hr hg => b_undone_rest Z cdv A outer s H E hr hg, trivial, D.kp, D.bindsN (fun _ _ _ _ _ _ us hl => match us, hl with
    | [a0, a1], _ => rfl), trivial⟩
/-! rest_of -/
def N_rest_of : List Str := ["ratio", "prime", "share"]
theorem S_rest_of : FnScope N_rest_of ["ratio", "prime"] (defScope (top 27)) := ⟨rfl, rfl, rfl, by decide +kernel, rfl, by decide +kernel, by decide +kernel⟩
def m_rest_of : MS := (mSeq (mSet 2 (mCall (lenM 2 d_undone_rest) (mCons (mProp 0 d_Ratio_bottom (mVar 0)) (mCons (mVar 1) mNil)))) (mRet (mIf (mB (mBin (dIsN false) (mVar 2) (mC .non))) (mC .non) (mBin dModI (mCall cInt (mCons (mBin dMulI (mProp 0 d_Ratio_top (mVar 0)) (mVar 2)) mNil)) (mVar 1)))))
def d_rest_of : List D → Mo D := runD 3 m_rest_of
theorem b_rest_of {P : Program} {w : World} {K : Fr'} {mg : Str → Option Value} {base : Heap} (Z : Zx P w K mg base) (cdv : Value) (A : Around) (outer : List Env) (s : Shared) (H : Hp) (E : XK) (hr : Room 2 (A.deeper (envOfC "rest_of" (defScope (top 27)) s.heap.objs.size (He.ga K "rest_of") cdv))) (hg : false = true → A.guards = some []) :
    PSsD (csK K) (cx0 P w K mg base N_rest_of "rest_of" (defScope (top 27)) (He.ga K "rest_of") cdv A outer s H E) (defBody (top 27)) m_rest_of := by
  obtain ⟨fd_Ratio_bottom, F_Ratio_bottom, FO_Ratio_bottom, hk_Ratio_bottom, hb_Ratio_bottom, _⟩ := w_Ratio_bottom Z
  obtain ⟨fd_Ratio_top, F_Ratio_top, FO_Ratio_top, hk_Ratio_top, hb_Ratio_top, _⟩ := w_Ratio_top Z
  obtain ⟨fd_undone_rest, F_undone_rest, FO_undone_rest, hk_undone_rest, hb_undone_rest, _⟩ := w_undone_rest Z
  exact (ss_cons (s_set 2 S_rest_of.nd (p_call F_undone_rest (hr.mono (by decide)) (fun (z : false = true) => nomatch z) (Z.glo_undone_rest) hk_undone_rest hb_undone_rest (DL.pa_cons (p_prop (Z.cl0) Z.pr_Ratio_bottom F_Ratio_bottom (hr.mono (by decide)) hb_Ratio_bottom (p_var 0)) (DL.pa_cons (p_var 1) DL.pa_nil)))) (ss_one (s_ret (p_if (pt_cmp op_isND (p_var 2) p_non rfl) p_non (p_bin op_modI (p_type ca_int Z.fr_int (DL.pa_cons (p_bin op_mulI (p_prop (Z.cl0) Z.pr_Ratio_top F_Ratio_top (hr.mono (by decide)) hb_Ratio_top (p_var 0)) (p_var 2)) DL.pa_nil)) (p_var 1))))))
theorem w_rest_of {P : Program} {w : World} {K : Fr'} {mg : Str → Option Value} {base : Heap} (Z : Zx P w K mg base) : ∃ fd, FnD false P w K mg base 3 (He.ga K "rest_of") fd ["ratio", "prime"] (spD K (csK K) 2 d_rest_of) ∧ True ∧ PySem.W.keepIn K (.ref (He.ga K "rest_of")) = true ∧ Binds K fd ["ratio", "prime"] [] ∧ True := by
  obtain ⟨fd, D⟩ := Z.says.def_ 13 (d := z_rest_of)
  refine ⟨fd, fn_d (N := N_rest_of) D S_rest_of fun cdv A outer s H E hr hg => b_rest_of Z cdv A outer s H E hr hg, trivial, D.kp, D.bindsN (fun _ _ _ _ _ _ us hl => match us, hl with
    | [a0, a1], _ => rfl), trivial⟩
/-! is_deal_of -/
def N_is_deal_of : List Str := ["prime", "value"]
theorem S_is_deal_of : FnScope N_is_deal_of ["prime", "value"] (defScope (top 28)) := ⟨rfl, rfl, rfl, by decide +kernel, rfl, by decide +kernel, by decide +kernel⟩
def m_is_deal_of : MS := (mRet (mBin (dEqU false) (mCall cSorted (mCons (mVar 1) mNil)) (mLst (oRg1 (mBin dMulI (mVar 0) (mVar 0))))))
def d_is_deal_of : List D → Mo D := runD 2 m_is_deal_of
theorem b_is_deal_of {P : Program} {w : World} {K : Fr'} {mg : Str → Option Value} {base : Heap} (Z : Zx P w K mg base) (cdv : Value) (A : Around) (outer : List Env) (s : Shared) (H : Hp) (E : XK) (hr : Room 6 (A.deeper (envOfC "is_deal_of" (defScope (top 28)) s.heap.objs.size (He.ga K "is_deal_of") cdv))) (hg : false = true → A.guards = some []) :
    PSsD (csK K) (cx0 P w K mg base N_is_deal_of "is_deal_of" (defScope (top 28)) (He.ga K "is_deal_of") cdv A outer s H E) (defBody (top 28)) m_is_deal_of := by
  exact (ss_one (s_ret (p_cmp (op_eqU Z (hr.mono (by decide)) false) (p_bltn ca_sorted Z.fr_sorted (DL.pa_cons (p_var 1) DL.pa_nil)) (POD.d (o_listRg1 rfl Z.fr_list Z.fr_range (p_bin op_mulI (p_var 0) (p_var 0)))) rfl)))
theorem w_is_deal_of {P : Program} {w : World} {K : Fr'} {mg : Str → Option Value} {base : Heap} (Z : Zx P w K mg base) : ∃ fd, FnD false P w K mg base 7 (He.ga K "is_deal_of") fd ["prime", "value"] (spD K (csK K) 2 d_is_deal_of) ∧ True ∧ PySem.W.keepIn K (.ref (He.ga K "is_deal_of")) = true ∧ Binds K fd ["prime", "value"] [] ∧ True := by
  obtain ⟨fd, D⟩ := Z.says.def_ 14 (d := z_is_deal_of)
  refine ⟨fd, fn_d (N := N_is_deal_of) D S_is_deal_of fun cdv A outer s H E hr hg => b_is_deal_of Z cdv A outer s H E hr hg, trivial, D.kp, D.bindsN (fun _ _ _ _ _ _ us hl => match us, hl with
    | [a0, a1], _ => rfl), trivial⟩
/-! behind_table -/
def N_behind_table : List Str := ["one", "other", "spot"]
theorem S_behind_table : FnScope N_behind_table ["one", "other"] (defScope (top 29)) := ⟨rfl, rfl, rfl, by decide +kernel, rfl, by decide +kernel, by decide +kernel⟩
def m_behind_table : MS := (mRetO (mLc (srcL (mVar 1)) [2] (tgN 2) mYes (mBin atD (mVar 0) (mVar 2))))
def d_behind_table : List D → Mo D := runD 3 m_behind_table
def o_behind_table : List D → Mo (List D) := runO 3 m_behind_table
theorem b_behind_table {P : Program} {w : World} {K : Fr'} {mg : Str → Option Value} {base : Heap} (Z : Zx P w K mg base) (cdv : Value) (A : Around) (outer : List Env) (s : Shared) (H : Hp) (E : XK) (hr : Room 0 (A.deeper (envOfC "behind_table" (defScope (top 29)) s.heap.objs.size (He.ga K "behind_table") cdv))) (hg : false = true → A.guards = some []) :
    PSsD (csK K) (cx0 P w K mg base N_behind_table "behind_table" (defScope (top 29)) (He.ga K "behind_table") cdv A outer s H E) (defBody (top 29)) m_behind_table := by
  exact (ss_one (s_retO (o_lc [("spot", 2)] rfl S_behind_table.nd (blkOk_by rfl) ((i_list (p_var 1))).j (fun _ _ _ _ _ => (g_name 2 S_behind_table.nd)) (fun _ _ _ _ _ => ts_nil) (fun _ _ _ _ _ => (p_ix (p_var 0) (p_var 2))))))
theorem w_behind_table {P : Program} {w : World} {K : Fr'} {mg : Str → Option Value} {base : Heap} (Z : Zx P w K mg base) : ∃ fd, FnD false P w K mg base 1 (He.ga K "behind_table") fd ["one", "other"] (spD K (csK K) 2 d_behind_table) ∧ FnD false P w K mg base 1 (He.ga K "behind_table") fd ["one", "other"] (spO K (csK K) 2 o_behind_table) ∧ PySem.W.keepIn K (.ref (He.ga K "behind_table")) = true ∧ Binds K fd ["one", "other"] [] ∧ True := by
  obtain ⟨fd, D⟩ := Z.says.def_ 15 (d := z_behind_table)
  refine ⟨fd, fn_d (N := N_behind_table) D S_behind_table fun cdv A outer s H E hr hg => b_behind_table Z cdv A outer s H E hr hg, fn_dO (N := N_behind_table) D S_behind_table fun cdv A outer s H E hr hg => b_behind_table Z cdv A outer s H E hr hg, D.kp, D.bindsN (fun _ _ _ _ _ _ us hl => match us, hl with
    | [a0, a1], _ => rfl), trivial⟩
/-! rest -/
def N_rest : List Str := ["number", "prime", "found", "told"]
theorem S_rest : FnScope N_rest ["number", "prime"] (defScope (top 30)) := ⟨rfl, rfl, rfl, by decide +kernel, rfl, by decide +kernel, by decide +kernel⟩
def m_rest : MS := (mSeq (mSet 2 (mCall (lenM 1 d_want_number) (mCons (mVar 0) mNil))) (mSeq (mDrop (mCall (lenM 1 d_want_prime) (mCons (mVar 1) mNil))) (mSeq (mSet 3 (mCall (lenM 2 d_rest_of) (mCons (mVar 2) (mCons (mVar 1) mNil)))) (mSeq (mIfS (mB (mBin (dIsN false) (mVar 3) (mC .non))) mNever mNx) (mRet (mVar 3))))))
def d_rest : List D → Mo D := runD 4 m_rest
theorem b_rest {P : Program} {w : World} {K : Fr'} {mg : Str → Option Value} {base : Heap} (Z : Zx P w K mg base) (cdv : Value) (A : Around) (outer : List Env) (s : Shared) (H : Hp) (E : XK) (hr : Room 5 (A.deeper (envOfC "rest" (defScope (top 30)) s.heap.objs.size (He.ga K "rest") cdv))) (hg : false = true → A.guards = some []) :
    PSsD (csK K) (cx0 P w K mg base N_rest "rest" (defScope (top 30)) (He.ga K "rest") cdv A outer s H E) (defBody (top 30)) m_rest := by
  obtain ⟨fd_rest_of, F_rest_of, FO_rest_of, hk_rest_of, hb_rest_of, _⟩ := w_rest_of Z
  obtain ⟨fd_want_number, F_want_number, FO_want_number, hk_want_number, hb_want_number, _⟩ := w_want_number Z
  obtain ⟨fd_want_prime, F_want_prime, FO_want_prime, hk_want_prime, hb_want_prime, _⟩ := w_want_prime Z
  exact (ss_cons (s_set 2 S_rest.nd (p_call F_want_number (hr.mono (by decide)) (fun (z : false = true) => nomatch z) (Z.glo_want_number) hk_want_number hb_want_number (DL.pa_cons (p_var 0) DL.pa_nil))) (ss_cons (s_expr (p_call F_want_prime (hr.mono (by decide)) (fun (z : false = true) => nomatch z) (Z.glo_want_prime) hk_want_prime hb_want_prime (DL.pa_cons (p_var 1) DL.pa_nil))) (ss_cons (s_set 3 S_rest.nd (p_call F_rest_of (hr.mono (by decide)) (fun (z : false = true) => nomatch z) (Z.glo_rest_of) hk_rest_of hb_rest_of (DL.pa_cons (p_var 2) (DL.pa_cons (p_var 1) DL.pa_nil)))) (ss_cons (s_if (pt_cmp op_isND (p_var 3) p_non rfl) (ss_one s_never) ss_nil) (ss_one (s_ret (p_var 3)))))))
theorem w_rest {P : Program} {w : World} {K : Fr'} {mg : Str → Option Value} {base : Heap} (Z : Zx P w K mg base) : ∃ fd, FnD false P w K mg base 6 (He.ga K "rest") fd ["number", "prime"] (spD K (csK K) 2 d_rest) ∧ True ∧ PySem.W.keepIn K (.ref (He.ga K "rest")) = true ∧ Binds K fd ["number", "prime"] [] ∧ True := by
  obtain ⟨fd, D⟩ := Z.says.def_ 16 (d := z_rest)
  refine ⟨fd, fn_d (N := N_rest) D S_rest fun cdv A outer s H E hr hg => b_rest Z cdv A outer s H E hr hg, trivial, D.kp, D.bindsN (fun _ _ _ _ _ _ us hl => match us, hl with
    | [a0, a1], _ => rfl), trivial⟩
/-! is_dealt -/
def N_is_dealt : List Str := ["prime", "value", "spot"]
theorem S_is_dealt : FnScope N_is_dealt ["prime", "value"] (defScope (top 33)) := ⟨rfl, rfl, rfl, by decide +kernel, rfl, by decide +kernel, by decide +kernel⟩
def m_is_dealt : MS := (mSeq (mIfS (mOr (mNot (mB (mCall (lenM 1 d_is_list) (mCons (mVar 1) mNil)))) (mOr (mB (mBin (dEqF true) (mCall cLen (mCons (mVar 1) mNil)) (mBin dMulI (mVar 0) (mVar 0)))) (mNot (mB (mCall cAll (mCons (mLst (mLc (srcS (mVar 1)) [2] (tgN 2) mYes (mCall (lenM 1 d_is_count) (mCons (mVar 2) mNil)))) mNil)))))) (mRet (mC (.bl false))) mNx) (mRet (mCall (lenM 2 d_is_deal_of) (mCons (mVar 0) (mCons (mVar 1) mNil)))))
def d_is_dealt : List D → Mo D := runD 3 m_is_dealt
theorem b_is_dealt {P : Program} {w : World} {K : Fr'} {mg : Str → Option Value} {base : Heap} (Z : Zx P w K mg base) (cdv : Value) (A : Around) (outer : List Env) (s : Shared) (H : Hp) (E : XK) (hr : Room 7 (A.deeper (envOfC "is_dealt" (defScope (top 33)) s.heap.objs.size (He.ga K "is_dealt") cdv))) (hg : false = true → A.guards = some []) :
    PSsD (csK K) (cx0 P w K mg base N_is_dealt "is_dealt" (defScope (top 33)) (He.ga K "is_dealt") cdv A outer s H E) (defBody (top 33)) m_is_dealt := by
  obtain ⟨fd_is_count, F_is_count, FO_is_count, hk_is_count, hb_is_count, _⟩ := w_is_count Z
  obtain ⟨fd_is_deal_of, F_is_deal_of, FO_is_deal_of, hk_is_deal_of, hb_is_deal_of, _⟩ := w_is_deal_of Z
  obtain ⟨fd_is_list, F_is_list, FO_is_list, hk_is_list, hb_is_list, _⟩ := w_is_list Z
  exact (ss_cons (s_if (PWD.pt (DL.pw_or (DL.pt_not (pt_v (p_call F_is_list (hr.mono (by decide)) (fun (z : false = true) => nomatch z) (Z.glo_is_list) hk_is_list hb_is_list (DL.pa_cons (p_var 1) DL.pa_nil)))) (DL.pw_or (pt_cmp (op_eqF true) (p_bltn ca_len Z.fr_len (DL.pa_cons (p_var 1) DL.pa_nil)) (p_bin op_mulI (p_var 0) (p_var 0)) rfl) (pw_one (DL.pt_not (pt_v (p_bltn (ca_all rfl) Z.fr_all (DL.pa_cons (POD.d (o_lc [("spot", 2)] rfl S_is_dealt.nd (blkOk_by rfl) ((i_seq (p_var 1))).j (fun _ _ _ _ _ => (g_name 2 S_is_dealt.nd)) (fun _ _ _ _ _ => ts_nil) (fun _ _ _ _ _ => (p_call F_is_count (hr.mono (by decide)) (fun (z : false = true) => nomatch z) (Z.glo_is_count) hk_is_count hb_is_count (DL.pa_cons (p_var 2) DL.pa_nil))))) DL.pa_nil)))))))) (ss_one (s_ret p_bl)) ss_nil) (ss_one (s_ret (p_call F_is_deal_of (hr.mono (by decide)) (fun (z : false = true) => nomatch z) (Z.glo_is_deal_of) hk_is_deal_of hb_is_deal_of (DL.pa_cons (p_var 0) (DL.pa_cons (p_var 1) DL.pa_nil))))))
theorem w_is_dealt {P : Program} {w : World} {K : Fr'} {mg : Str → Option Value} {base : Heap} (Z : Zx P w K mg base) : ∃ fd, FnD false P w K mg base 8 (He.ga K "is_dealt") fd ["prime", "value"] (spD K (csK K) 2 d_is_dealt) ∧ True ∧ PySem.W.keepIn K (.ref (He.ga K "is_dealt")) = true ∧ Binds K fd ["prime", "value"] [] ∧ True := by
  obtain ⟨fd, D⟩ := Z.says.def_ 17 (d := z_is_dealt)
  refine ⟨fd, fn_d (N := N_is_dealt) D S_is_dealt fun cdv A outer s H E hr hg => b_is_dealt Z cdv A outer s H E hr hg, trivial, D.kp, D.bindsN (fun _ _ _ _ _ _ us hl => match us, hl with
    | [a0, a1], _ => rfl), trivial⟩
/-! want_deal -/
def N_want_deal : List Str := ["prime", "deal"]
theorem S_want_deal : FnScope N_want_deal ["prime", "deal"] (defScope (top 34)) := ⟨rfl, rfl, rfl, by decide +kernel, rfl, by decide +kernel, by decide +kernel⟩
def m_want_deal : MS := (mSeq (mIfS (mNot (mB (mCall (lenM 2 d_is_dealt) (mCons (mVar 0) (mCons (mVar 1) mNil))))) mNever mNx) (mRetO (mCallO oListC (mCons (mVar 1) mNil))))
def d_want_deal : List D → Mo D := runD 2 m_want_deal
def o_want_deal : List D → Mo (List D) := runO 2 m_want_deal
theorem b_want_deal {P : Program} {w : World} {K : Fr'} {mg : Str → Option Value} {base : Heap} (Z : Zx P w K mg base) (cdv : Value) (A : Around) (outer : List Env) (s : Shared) (H : Hp) (E : XK) (hr : Room 8 (A.deeper (envOfC "want_deal" (defScope (top 34)) s.heap.objs.size (He.ga K "want_deal") cdv))) (hg : false = true → A.guards = some []) :
    PSsD (csK K) (cx0 P w K mg base N_want_deal "want_deal" (defScope (top 34)) (He.ga K "want_deal") cdv A outer s H E) (defBody (top 34)) m_want_deal := by
  obtain ⟨fd_is_dealt, F_is_dealt, FO_is_dealt, hk_is_dealt, hb_is_dealt, _⟩ := w_is_dealt Z
  exact (ss_cons (s_if (DL.pt_not (pt_v (p_call F_is_dealt (hr.mono (by decide)) (fun (z : false = true) => nomatch z) (Z.glo_is_dealt) hk_is_dealt hb_is_dealt (DL.pa_cons (p_var 0) (DL.pa_cons (p_var 1) DL.pa_nil))))) (ss_one s_never) ss_nil) (ss_one (s_retO (o_listOf Z.fr_list (DL.pa_cons (p_var 1) DL.pa_nil)))))
theorem w_want_deal {P : Program} {w : World} {K : Fr'} {mg : Str → Option Value} {base : Heap} (Z : Zx P w K mg base) : ∃ fd, FnD false P w K mg base 9 (He.ga K "want_deal") fd ["prime", "deal"] (spD K (csK K) 2 d_want_deal) ∧ FnD false P w K mg base 9 (He.ga K "want_deal") fd ["prime", "deal"] (spO K (csK K) 2 o_want_deal) ∧ PySem.W.keepIn K (.ref (He.ga K "want_deal")) = true ∧ Binds K fd ["prime", "deal"] [] ∧ True := by
  obtain ⟨fd, D⟩ := Z.says.def_ 18 (d := z_want_deal)
  refine ⟨fd, fn_d (N := N_want_deal) D S_want_deal fun cdv A outer s H E hr hg => b_want_deal Z cdv A outer s H E hr hg, fn_dO (N := N_want_deal) D S_want_deal fun cdv A outer s H E hr hg => b_want_deal Z cdv A outer s H E hr hg, D.kp, D.bindsN (fun _ _ _ _ _ _ us hl => match us, hl with
    | [a0, a1], _ => rfl), trivial⟩
/-! undone_of -/
def N_undone_of : List Str := ["deal", "found", "spot", "other"]
theorem S_undone_of : FnScope N_undone_of ["deal"] (defScope (top 35)) := ⟨rfl, rfl, rfl, by decide +kernel, rfl, by decide +kernel, by decide +kernel⟩
def m_undone_of : MS := (mSeq (mSetO 1 (oRep (mLst (mNew (mCons (mC (.int 0)) mNil))) (mCall cLen (mCons (mVar 0) mNil)))) (mSeq (mFor (srcE (mCons (mVar 0) mNil)) (tgTup 2 (tgCons (tgN 2) (tgCons (tgN 3) tgNil))) (mSetIx 1 (mVar 2) (mVar 3))) (mRetX 1)))
def d_undone_of : List D → Mo D := runD 4 m_undone_of
def o_undone_of : List D → Mo (List D) := runO 4 m_undone_of
theorem b_undone_of {P : Program} {w : World} {K : Fr'} {mg : Str → Option Value} {base : Heap} (Z : Zx P w K mg base) (cdv : Value) (A : Around) (outer : List Env) (s : Shared) (H : Hp) (E : XK) (hr : Room 0 (A.deeper (envOfC "undone_of" (defScope (top 35)) s.heap.objs.size (He.ga K "undone_of") cdv))) (hg : false = true → A.guards = some []) :
    PSsD (csK K) (cx0 P w K mg base N_undone_of "undone_of" (defScope (top 35)) (He.ga K "undone_of") cdv A outer s H E) (defBody (top 35)) m_undone_of := by
  exact (ss_cons (s_setO 1 S_undone_of.nd (o_rep (POD.d (o_lst (DL.pa_cons p_int DL.pa_nil))) (p_bltn ca_len Z.fr_len (DL.pa_cons (p_var 0) DL.pa_nil)))) (ss_cons (s_for PassesOwn.never rfl (i_enum Z.fr_enumerate (DL.pa_cons (p_var 0) DL.pa_nil)) (g_tup rfl (gs_cons (g_name 2 S_undone_of.nd) (gs_cons (g_name 3 S_undone_of.nd) gs_nil))) (ss_one (s_setIx 1 (p_var 2) (p_var 3)))) (ss_one (s_retX 1))))
theorem w_undone_of {P : Program} {w : World} {K : Fr'} {mg : Str → Option Value} {base : Heap} (Z : Zx P w K mg base) : ∃ fd, FnD false P w K mg base 1 (He.ga K "undone_of") fd ["deal"] (spD K (csK K) 1 d_undone_of) ∧ FnD false P w K mg base 1 (He.ga K "undone_of") fd ["deal"] (spO K (csK K) 1 o_undone_of) ∧ PySem.W.keepIn K (.ref (He.ga K "undone_of")) = true ∧ Binds K fd ["deal"] [] ∧ True := by
  obtain ⟨fd, D⟩ := Z.says.def_ 19 (d := z_undone_of)
  refine ⟨fd, fn_d (N := N_undone_of) D S_undone_of fun cdv A outer s H E hr hg => b_undone_of Z cdv A outer s H E hr hg, fn_dO (N := N_undone_of) D S_undone_of fun cdv A outer s H E hr hg => b_undone_of Z cdv A outer s H E hr hg, D.kp, D.bindsN (fun _ _ _ _ _ _ us hl => match us, hl with
    | [a0], _ => rfl), trivial⟩
/-! cycles_of -/
def N_cycles_of : List Str := ["deal", "found", "done", "spot", "row"]
theorem S_cycles_of : FnScope N_cycles_of ["deal"] (defScope (top 36)) := ⟨rfl, rfl, rfl, by decide +kernel, rfl, by decide +kernel, by decide +kernel⟩
def m_cycles_of : MS := (mSeq (mParOO 1 2 (mNew mNil) (oRep (mLst (mNew (mCons (mC (.bl false)) mNil))) (mCall cLen (mCons (mVar 0) mNil)))) (mSeq (mFor (srcR1 (mCons (mCall cLen (mCons (mVar 0) mNil)) mNil)) (tgN 3) (mSeq (mSetO 4 (mNew mNil)) (mSeq (mWhile (mNot (mB (mBin atD (mVarB 2) (mVar 3)))) (mSeq (mSetIx 2 (mC (.bl true)) (mVar 3)) (mSeq (mApp 4 (mVar 3)) (mSet 3 (mBin atD (mVar 0) (mVar 3)))))) (mFrz 4 (mExt 1 (mIf (mBorT 4 (mB (mBin (dEqU true) (mVar 4) (mLst (mNew mNil))))) (mLst (mNew (mCons (mVar 4) mNil))) (mLst (mNew mNil)))))))) (mRetX 1)))
def d_cycles_of : List D → Mo D := runD 5 m_cycles_of
def o_cycles_of : List D → Mo (List D) := runO 5 m_cycles_of
theorem b_cycles_of {P : Program} {w : World} {K : Fr'} {mg : Str → Option Value} {base : Heap} (Z : Zx P w K mg base) (cdv : Value) (A : Around) (outer : List Env) (s : Shared) (H : Hp) (E : XK) (hr : Room 6 (A.deeper (envOfC "cycles_of" (defScope (top 36)) s.heap.objs.size (He.ga K "cycles_of") cdv))) (hg : false = true → A.guards = some []) :
    PSsD (csK K) (cx0 P w K mg base N_cycles_of "cycles_of" (defScope (top 36)) (He.ga K "cycles_of") cdv A outer s H E) (defBody (top 36)) m_cycles_of := by
  exact (ss_cons (s_parOO 1 2 rfl S_cycles_of.nd (o_lst DL.pa_nil) (o_rep (POD.d (o_lst (DL.pa_cons p_bl DL.pa_nil))) (p_bltn ca_len Z.fr_len (DL.pa_cons (p_var 0) DL.pa_nil))) rfl) (ss_cons (s_for PassesOwn.never rfl (i_range1 Z.fr_range (DL.pa_cons (p_bltn ca_len Z.fr_len (DL.pa_cons (p_var 0) DL.pa_nil)) DL.pa_nil)) (g_name 3 S_cycles_of.nd) (ss_cons (s_setO 4 S_cycles_of.nd (o_lst DL.pa_nil)) (ss_cons (s_while PassesOwn.never (DL.pt_not (pt_v (p_ixB (b_var 2) (p_var 3)))) (ss_cons (s_setIx 2 p_bl (p_var 3)) (ss_cons (s_app 4 (p_var 3)) (ss_one (s_set 3 S_cycles_of.nd (p_ix (p_var 0) (p_var 3))))))) (ss_frz 4 (ss_one (s_ext 1 (p_if (pt_bor 4 (pt_cmp (op_eqU Z (hr.mono (by decide)) true) (p_var 4) (POD.d (o_lst DL.pa_nil)) rfl)) (POD.d (o_lst (DL.pa_cons (p_var 4) DL.pa_nil))) (POD.d (o_lst DL.pa_nil))))))))) (ss_one (s_retX 1))))
theorem w_cycles_of {P : Program} {w : World} {K : Fr'} {mg : Str → Option Value} {base : Heap} (Z : Zx P w K mg base) : ∃ fd, FnD false P w K mg base 7 (He.ga K "cycles_of") fd ["deal"] (spD K (csK K) 1 d_cycles_of) ∧ FnD false P w K mg base 7 (He.ga K "cycles_of") fd ["deal"] (spO K (csK K) 1 o_cycles_of) ∧ PySem.W.keepIn K (.ref (He.ga K "cycles_of")) = true ∧ Binds K fd ["deal"] [] ∧ True := by
  obtain ⟨fd, D⟩ := Z.says.def_ 20 (d := z_cycles_of)
  refine ⟨fd, fn_d (N := N_cycles_of) D S_cycles_of fun cdv A outer s H E hr hg => b_cycles_of Z cdv A outer s H E hr hg, fn_dO (N := N_cycles_of) D S_cycles_of fun cdv A outer s H E hr hg => b_cycles_of Z cdv A outer s H E hr hg, D.kp, D.bindsN (fun _ _ _ _ _ _ us hl => match us, hl with
    | [a0], _ => rfl), trivial⟩
/-! common_multiple -/
def N_common_multiple : List Str := ["numbers", "found", "number", "step"]
theorem S_common_multiple : FnScope N_common_multiple ["numbers"] (defScope (top 37)) := ⟨rfl, rfl, rfl, by decide +kernel, rfl, by decide +kernel, by decide +kernel⟩
def m_common_multiple : MS := (mSeq (mSet 1 (mC (.int 1))) (mSeq (mFor (srcL (mVar 0)) (tgN 2) (mSeq (mSet 3 (mVar 1)) (mWhile (mB (mBin (dEqF true) (mBin dModI (mCall cInt (mCons (mVar 1) mNil)) (mVar 2)) (mC (.int 0)))) (mSet 1 (mBin dAddI (mVar 1) (mVar 3)))))) (mRet (mVar 1))))
def d_common_multiple : List D → Mo D := runD 4 m_common_multiple
theorem b_common_multiple {P : Program} {w : World} {K : Fr'} {mg : Str → Option Value} {base : Heap} (Z : Zx P w K mg base) (cdv : Value) (A : Around) (outer : List Env) (s : Shared) (H : Hp) (E : XK) (hr : Room 0 (A.deeper (envOfC "common_multiple" (defScope (top 37)) s.heap.objs.size (He.ga K "common_multiple") cdv))) (hg : false = true → A.guards = some []) :
    PSsD (csK K) (cx0 P w K mg base N_common_multiple "common_multiple" (defScope (top 37)) (He.ga K "common_multiple") cdv A outer s H E) (defBody (top 37)) m_common_multiple := by
  exact (ss_cons (s_set 1 S_common_multiple.nd p_int) (ss_cons (s_for PassesOwn.never rfl (i_list (p_var 0)) (g_name 2 S_common_multiple.nd) (ss_cons (s_set 3 S_common_multiple.nd (p_var 1)) (ss_one (s_while PassesOwn.never (pt_cmp (op_eqF true) (p_bin op_modI (p_type ca_int Z.fr_int (DL.pa_cons (p_var 1) DL.pa_nil)) (p_var 2)) p_int rfl) (ss_one (s_set 1 S_common_multiple.nd (p_bin op_addI (p_var 1) (p_var 3)))))))) (ss_one (s_ret (p_var 1)))))
theorem w_common_multiple {P : Program} {w : World} {K : Fr'} {mg : Str → Option Value} {base : Heap} (Z : Zx P w K mg base) : ∃ fd, FnD false P w K mg base 1 (He.ga K "common_multiple") fd ["numbers"] (spD K (csK K) 1 d_common_multiple) ∧ True ∧ PySem.W.keepIn K (.ref (He.ga K "common_multiple")) = true ∧ Binds K fd ["numbers"] [] ∧ True := by
  obtain ⟨fd, D⟩ := Z.says.def_ 21 (d := z_common_multiple)
  refine ⟨fd, fn_d (N := N_common_multiple) D S_common_multiple fun cdv A outer s H E hr hg => b_common_multiple Z cdv A outer s H E hr hg, trivial, D.kp, D.bindsN (fun _ _ _ _ _ _ us hl => match us, hl with
    | [a0], _ => rfl), trivial⟩
/-! is_even_of -/
def N_is_even_of : List Str := ["deal"]
theorem S_is_even_of : FnScope N_is_even_of ["deal"] (defScope (top 38)) := ⟨rfl, rfl, rfl, by decide +kernel, rfl, by decide +kernel, by decide +kernel⟩
def m_is_even_of : MS := (mRet (mBin (dEqF false) (mBin dModI (mCall cInt (mCons (mBin dSubI (mCall cLen (mCons (mVar 0) mNil)) (mCall cLen (mCons (mLst (mCallO (lenO 1 o_cycles_of) (mCons (mVar 0) mNil))) mNil))) mNil)) (mC (.int 2))) (mC (.int 0))))
def d_is_even_of : List D → Mo D := runD 1 m_is_even_of
theorem b_is_even_of {P : Program} {w : World} {K : Fr'} {mg : Str → Option Value} {base : Heap} (Z : Zx P w K mg base) (cdv : Value) (A : Around) (outer : List Env) (s : Shared) (H : Hp) (E : XK) (hr : Room 7 (A.deeper (envOfC "is_even_of" (defScope (top 38)) s.heap.objs.size (He.ga K "is_even_of") cdv))) (hg : false = true → A.guards = some []) :
    PSsD (csK K) (cx0 P w K mg base N_is_even_of "is_even_of" (defScope (top 38)) (He.ga K "is_even_of") cdv A outer s H E) (defBody (top 38)) m_is_even_of := by
  obtain ⟨fd_cycles_of, F_cycles_of, FO_cycles_of, hk_cycles_of, hb_cycles_of, _⟩ := w_cycles_of Z
  exact (ss_one (s_ret (p_cmp (op_eqF false) (p_bin op_modI (p_type ca_int Z.fr_int (DL.pa_cons (p_bin op_subI (p_bltn ca_len Z.fr_len (DL.pa_cons (p_var 0) DL.pa_nil)) (p_bltn ca_len Z.fr_len (DL.pa_cons (POD.d (p_callO FO_cycles_of (hr.mono (by decide)) (fun (z : false = true) => nomatch z) (Z.glo_cycles_of) hk_cycles_of hb_cycles_of (DL.pa_cons (p_var 0) DL.pa_nil))) DL.pa_nil))) DL.pa_nil)) p_int) p_int rfl)))
theorem w_is_even_of {P : Program} {w : World} {K : Fr'} {mg : Str → Option Value} {base : Heap} (Z : Zx P w K mg base) : ∃ fd, FnD false P w K mg base 8 (He.ga K "is_even_of") fd ["deal"] (spD K (csK K) 1 d_is_even_of) ∧ True ∧ PySem.W.keepIn K (.ref (He.ga K "is_even_of")) = true ∧ Binds K fd ["deal"] [] ∧ True := by
  obtain ⟨fd, D⟩ := Z.says.def_ 22 (d := z_is_even_of)
  refine ⟨fd, fn_d (N := N_is_even_of) D S_is_even_of fun cdv A outer s H E hr hg => b_is_even_of Z cdv A outer s H E hr hg, trivial, D.kp, D.bindsN (fun _ _ _ _ _ _ us hl => match us, hl with
    | [a0], _ => rfl), trivial⟩
/-! done_of -/
def N_done_of : List Str := ["deal", "many", "found", "twice"]
theorem S_done_of : FnScope N_done_of ["deal", "many"] (defScope (top 39)) := ⟨rfl, rfl, rfl, by decide +kernel, rfl, by decide +kernel, by decide +kernel⟩
def m_done_of : MS := (mSeq (mParOV 2 3 (oRg1 (mCall cLen (mCons (mVar 0) mNil))) (mVar 0)) (mSeq (mWhile (mB (mBin dGt (mVar 1) (mC (.int 0)))) (mSeq (mIfS (mB (mBin (dEqF false) (mBin dModI (mCall cInt (mCons (mVar 1) mNil)) (mC (.int 2))) (mC (.int 1)))) (mFrz 2 (mSetO 2 (mCallO (lenO 2 o_behind_table) (mCons (mVar 3) (mCons (mVar 2) mNil))))) mNx) (mPar 3 1 (mCons (mLst (mCallO (lenO 2 o_behind_table) (mCons (mVar 3) (mCons (mVar 3) mNil)))) (mCons (mBin dDivI (mVar 1) (mC (.int 2))) mNil))))) (mRetX 2)))
def d_done_of : List D → Mo D := runD 4 m_done_of
def o_done_of : List D → Mo (List D) := runO 4 m_done_of
theorem b_done_of {P : Program} {w : World} {K : Fr'} {mg : Str → Option Value} {base : Heap} (Z : Zx P w K mg base) (cdv : Value) (A : Around) (outer : List Env) (s : Shared) (H : Hp) (E : XK) (hr : Room 1 (A.deeper (envOfC "done_of" (defScope (top 39)) s.heap.objs.size (He.ga K "done_of") cdv))) (hg : false = true → A.guards = some []) :
    PSsD (csK K) (cx0 P w K mg base N_done_of "done_of" (defScope (top 39)) (He.ga K "done_of") cdv A outer s H E) (defBody (top 39)) m_done_of := by
  obtain ⟨fd_behind_table, F_behind_table, FO_behind_table, hk_behind_table, hb_behind_table, _⟩ := w_behind_table Z
  exact (ss_cons (s_parOV 2 3 rfl S_done_of.nd (o_listRg1 rfl Z.fr_list Z.fr_range (p_bltn ca_len Z.fr_len (DL.pa_cons (p_var 0) DL.pa_nil))) (p_var 0) rfl) (ss_cons (s_while PassesOwn.never (pt_cmp op_gtI (p_var 1) p_int rfl) (ss_cons (s_if (pt_cmp (op_eqF false) (p_bin op_modI (p_type ca_int Z.fr_int (DL.pa_cons (p_var 1) DL.pa_nil)) p_int) p_int rfl) (ss_frz 2 (ss_one (s_setO 2 S_done_of.nd (p_callO FO_behind_table (hr.mono (by decide)) (fun (z : false = true) => nomatch z) (Z.glo_behind_table) hk_behind_table hb_behind_table (DL.pa_cons (p_var 3) (DL.pa_cons (p_var 2) DL.pa_nil)))))) ss_nil) (ss_one (s_par 3 1 rfl S_done_of.nd (DL.pa_cons (POD.d (p_callO FO_behind_table (hr.mono (by decide)) (fun (z : false = true) => nomatch z) (Z.glo_behind_table) hk_behind_table hb_behind_table (DL.pa_cons (p_var 3) (DL.pa_cons (p_var 3) DL.pa_nil)))) (DL.pa_cons (p_bin op_divI (p_var 1) p_int) DL.pa_nil)) rfl)))) (ss_one (s_retX 2))))
theorem w_done_of {P : Program} {w : World} {K : Fr'} {mg : Str → Option Value} {base : Heap} (Z : Zx P w K mg base) : ∃ fd, FnD false P w K mg base 2 (He.ga K "done_of") fd ["deal", "many"] (spD K (csK K) 2 d_done_of) ∧ FnD false P w K mg base 2 (He.ga K "done_of") fd ["deal", "many"] (spO K (csK K) 2 o_done_of) ∧ PySem.W.keepIn K (.ref (He.ga K "done_of")) = true ∧ Binds K fd ["deal", "many"] [] ∧ True := by
  obtain ⟨fd, D⟩ := Z.says.def_ 23 (d := z_done_of)
  refine ⟨fd, fn_d (N := N_done_of) D S_done_of fun cdv A outer s H E hr hg => b_done_of Z cdv A outer s H E hr hg, fn_dO (N := N_done_of) D S_done_of fun cdv A outer s H E hr hg => b_done_of Z cdv A outer s H E hr hg, D.kp, D.bindsN (fun _ _ _ _ _ _ us hl => match us, hl with
    | [a0, a1], _ => rfl), trivial⟩
/-! is_deal -/
def N_is_deal : List Str := ["prime", "value"]
theorem S_is_deal : FnScope N_is_deal ["prime", "value"] (defScope (top 40)) := ⟨rfl, rfl, rfl, by decide +kernel, rfl, by decide +kernel, by decide +kernel⟩
def m_is_deal : MS := (mSeq (mDrop (mCall (lenM 1 d_want_prime) (mCons (mVar 0) mNil))) (mRet (mCall (lenM 2 d_is_dealt) (mCons (mVar 0) (mCons (mVar 1) mNil)))))
def d_is_deal : List D → Mo D := runD 2 m_is_deal
theorem b_is_deal {P : Program} {w : World} {K : Fr'} {mg : Str → Option Value} {base : Heap} (Z : Zx P w K mg base) (cdv : Value) (A : Around) (outer : List Env) (s : Shared) (H : Hp) (E : XK) (hr : Room 8 (A.deeper (envOfC "is_deal" (defScope (top 40)) s.heap.objs.size (He.ga K "is_deal") cdv))) (hg : false = true → A.guards = some []) :
    PSsD (csK K) (cx0 P w K mg base N_is_deal "is_deal" (defScope (top 40)) (He.ga K "is_deal") cdv A outer s H E) (defBody (top 40)) m_is_deal := by
  obtain ⟨fd_is_dealt, F_is_dealt, FO_is_dealt, hk_is_dealt, hb_is_dealt, _⟩ := w_is_dealt Z
  obtain ⟨fd_want_prime, F_want_prime, FO_want_prime, hk_want_prime, hb_want_prime, _⟩ := w_want_prime Z
  exact (ss_cons (s_expr (p_call F_want_prime (hr.mono (by decide)) (fun (z : false = true) => nomatch z) (Z.glo_want_prime) hk_want_prime hb_want_prime (DL.pa_cons (p_var 0) DL.pa_nil))) (ss_one (s_ret (p_call F_is_dealt (hr.mono (by decide)) (fun (z : false = true) => nomatch z) (Z.glo_is_dealt) hk_is_dealt hb_is_dealt (DL.pa_cons (p_var 0) (DL.pa_cons (p_var 1) DL.pa_nil))))))
theorem w_is_deal {P : Program} {w : World} {K : Fr'} {mg : Str → Option Value} {base : Heap} (Z : Zx P w K mg base) : ∃ fd, FnD false P w K mg base 9 (He.ga K "is_deal") fd ["prime", "value"] (spD K (csK K) 2 d_is_deal) ∧ True ∧ PySem.W.keepIn K (.ref (He.ga K "is_deal")) = true ∧ Binds K fd ["prime", "value"] [] ∧ KwB fd ["prime", "value"] ["value", "prime"] [1, 0] ∧ True := by
  obtain ⟨fd, D⟩ := Z.says.def_ 24 (d := z_is_deal)
  refine ⟨fd, fn_d (N := N_is_deal) D S_is_deal fun cdv A outer s H E hr hg => b_is_deal Z cdv A outer s H E hr hg, trivial, D.kp, D.bindsN (fun _ _ _ _ _ _ us hl => match us, hl with
    | [a0, a1], _ => rfl), FunD.kwB D ["prime", "value"] ["value", "prime"] [1, 0] (fun _ _ _ _ _ _ us hl => match us, hl with
    | [a0, a1], _ => rfl), trivial⟩
/-! behind_deal -/
def N_behind_deal : List Str := ["prime", "deal", "other", "one"]
theorem S_behind_deal : FnScope N_behind_deal ["prime", "deal", "other"] (defScope (top 41)) := ⟨rfl, rfl, rfl, by decide +kernel, rfl, by decide +kernel, by decide +kernel⟩
def m_behind_deal : MS := (mSeq (mDrop (mCall (lenM 1 d_want_prime) (mCons (mVar 0) mNil))) (mSeq (mSet 3 (mLst (mCallO (lenO 2 o_want_deal) (mCons (mVar 0) (mCons (mVar 1) mNil))))) (mRetO (mCallO (lenO 2 o_behind_table) (mCons (mVar 3) (mCons (mLst (mCallO (lenO 2 o_want_deal) (mCons (mVar 0) (mCons (mVar 2) mNil)))) mNil))))))
def d_behind_deal : List D → Mo D := runD 4 m_behind_deal
def o_behind_deal : List D → Mo (List D) := runO 4 m_behind_deal
theorem b_behind_deal {P : Program} {w : World} {K : Fr'} {mg : Str → Option Value} {base : Heap} (Z : Zx P w K mg base) (cdv : Value) (A : Around) (outer : List Env) (s : Shared) (H : Hp) (E : XK) (hr : Room 9 (A.deeper (envOfC "behind_deal" (defScope (top 41)) s.heap.objs.size (He.ga K "behind_deal") cdv))) (hg : false = true → A.guards = some []) :
    PSsD (csK K) (cx0 P w K mg base N_behind_deal "behind_deal" (defScope (top 41)) (He.ga K "behind_deal") cdv A outer s H E) (defBody (top 41)) m_behind_deal := by
  obtain ⟨fd_behind_table, F_behind_table, FO_behind_table, hk_behind_table, hb_behind_table, _⟩ := w_behind_table Z
  obtain ⟨fd_want_deal, F_want_deal, FO_want_deal, hk_want_deal, hb_want_deal, _⟩ := w_want_deal Z
  obtain ⟨fd_want_prime, F_want_prime, FO_want_prime, hk_want_prime, hb_want_prime, _⟩ := w_want_prime Z
  exact (ss_cons (s_expr (p_call F_want_prime (hr.mono (by decide)) (fun (z : false = true) => nomatch z) (Z.glo_want_prime) hk_want_prime hb_want_prime (DL.pa_cons (p_var 0) DL.pa_nil))) (ss_cons (s_set 3 S_behind_deal.nd (POD.d (p_callO FO_want_deal (hr.mono (by decide)) (fun (z : false = true) => nomatch z) (Z.glo_want_deal) hk_want_deal hb_want_deal (DL.pa_cons (p_var 0) (DL.pa_cons (p_var 1) DL.pa_nil))))) (ss_one (s_retO (p_callO FO_behind_table (hr.mono (by decide)) (fun (z : false = true) => nomatch z) (Z.glo_behind_table) hk_behind_table hb_behind_table (DL.pa_cons (p_var 3) (DL.pa_cons (POD.d (p_callO FO_want_deal (hr.mono (by decide)) (fun (z : false = true) => nomatch z) (Z.glo_want_deal) hk_want_deal hb_want_deal (DL.pa_cons (p_var 0) (DL.pa_cons (p_var 2) DL.pa_nil)))) DL.pa_nil)))))))
theorem w_behind_deal {P : Program} {w : World} {K : Fr'} {mg : Str → Option Value} {base : Heap} (Z : Zx P w K mg base) : ∃ fd, FnD false P w K mg base 10 (He.ga K "behind_deal") fd ["prime", "deal", "other"] (spD K (csK K) 3 d_behind_deal) ∧ FnD false P w K mg base 10 (He.ga K "behind_deal") fd ["prime", "deal", "other"] (spO K (csK K) 3 o_behind_deal) ∧ PySem.W.keepIn K (.ref (He.ga K "behind_deal")) = true ∧ Binds K fd ["prime", "deal", "other"] [] ∧ KwB fd ["prime", "deal", "other"] ["other", "deal", "prime"] [2, 1, 0] ∧ True := by
  obtain ⟨fd, D⟩ := Z.says.def_ 25 (d := z_behind_deal)
  refine ⟨fd, fn_d (N := N_behind_deal) D S_behind_deal fun cdv A outer s H E hr hg => b_behind_deal Z cdv A outer s H E hr hg, fn_dO (N := N_behind_deal) D S_behind_deal fun cdv A outer s H E hr hg => b_behind_deal Z cdv A outer s H E hr hg, D.kp, D.bindsN (fun _ _ _ _ _ _ us hl => match us, hl with
    | [a0, a1, a2], _ => rfl), FunD.kwB D ["prime", "deal", "other"] ["other", "deal", "prime"] [2, 1, 0] (fun _ _ _ _ _ _ us hl => match us, hl with
    | [a0, a1, a2], _ => rfl), trivial⟩
/-! undone_deal -/
def N_undone_deal : List Str := ["prime", "deal"]
theorem S_undone_deal : FnScope N_undone_deal ["prime", "deal"] (defScope (top 42)) := ⟨rfl, rfl, rfl, by decide +kernel, rfl, by decide +kernel, by decide +kernel⟩
def m_undone_deal : MS := (mSeq (mDrop (mCall (lenM 1 d_want_prime) (mCons (mVar 0) mNil))) (mRetO (mCallO (lenO 1 o_undone_of) (mCons (mLst (mCallO (lenO 2 o_want_deal) (mCons (mVar 0) (mCons (mVar 1) mNil)))) mNil))))
def d_undone_deal : List D → Mo D := runD 2 m_undone_deal
def o_undone_deal : List D → Mo (List D) := runO 2 m_undone_deal
theorem b_undone_deal {P : Program} {w : World} {K : Fr'} {mg : Str → Option Value} {base : Heap} (Z : Zx P w K mg base) (cdv : Value) (A : Around) (outer : List Env) (s : Shared) (H : Hp) (E : XK) (hr : Room 9 (A.deeper (envOfC "undone_deal" (defScope (top 42)) s.heap.objs.size (He.ga K "undone_deal") cdv))) (hg : false = true → A.guards = some []) :
    PSsD (csK K) (cx0 P w K mg base N_undone_deal "undone_deal" (defScope (top 42)) (He.ga K "undone_deal") cdv A outer s H E) (defBody (top 42)) m_undone_deal := by
  obtain ⟨fd_undone_of, F_undone_of, FO_undone_of, hk_undone_of, hb_undone_of, _⟩ := w_undone_of Z
  obtain ⟨fd_want_deal, F_want_deal, FO_want_deal, hk_want_deal, hb_want_deal, _⟩ := w_want_deal Z
  obtain ⟨fd_want_prime, F_want_prime, FO_want_prime, hk_want_prime, hb_want_prime, _⟩ := w_want_prime Z
  exact (ss_cons (s_expr (p_call F_want_prime (hr.mono (by decide)) (fun (z : false = true) => nomatch z) (Z.glo_want_prime) hk_want_prime hb_want_prime (DL.pa_cons (p_var 0) DL.pa_nil))) (ss_one (s_retO (p_callO FO_undone_of (hr.mono (by decide)) (fun (z : false = true) => nomatch z) (Z.glo_undone_of) hk_undone_of hb_undone_of (DL.pa_cons (POD.d (p_callO FO_want_deal (hr.mono (by decide)) (fun (z : false = true) => nomatch z) (Z.glo_want_deal) hk_want_deal hb_want_deal (DL.pa_cons (p_var 0) (DL.pa_cons (p_var 1) DL.pa_nil)))) DL.pa_nil)))))
theorem w_undone_deal {P : Program} {w : World} {K : Fr'} {mg : Str → Option Value} {base : Heap} (Z : Zx P w K mg base) : ∃ fd, FnD false P w K mg base 10 (He.ga K "undone_deal") fd ["prime", "deal"] (spD K (csK K) 2 d_undone_deal) ∧ FnD false P w K mg base 10 (He.ga K "undone_deal") fd ["prime", "deal"] (spO K (csK K) 2 o_undone_deal) ∧ PySem.W.keepIn K (.ref (He.ga K "undone_deal")) = true ∧ Binds K fd ["prime", "deal"] [] ∧ KwB fd ["prime", "deal"] ["deal", "prime"] [1, 0] ∧ True := by
  obtain ⟨fd, D⟩ := Z.says.def_ 26 (d := z_undone_deal)
  refine ⟨fd, fn_d (N := N_undone_deal) D S_undone_deal fun cdv A outer s H E hr hg => b_undone_deal Z cdv A outer s H E hr hg, fn_dO (N := N_undone_deal) D S_undone_deal fun cdv A outer s H E hr hg => b_undone_deal Z cdv A outer s H E hr hg, D.kp, D.bindsN (fun _ _ _ _ _ _ us hl => match us, hl with
    | [a0, a1], _ => rfl), FunD.kwB D ["prime", "deal"] ["deal", "prime"] [1, 0] (fun _ _ _ _ _ _ us hl => match us, hl with
    | [a0, a1], _ => rfl), trivial⟩
/-! cycles -/
def N_cycles : List Str := ["prime", "deal"]
theorem S_cycles : FnScope N_cycles ["prime", "deal"] (defScope (top 43)) := ⟨rfl, rfl, rfl, by decide +kernel, rfl, by decide +kernel, by decide +kernel⟩
def m_cycles : MS := (mSeq (mDrop (mCall (lenM 1 d_want_prime) (mCons (mVar 0) mNil))) (mRetO (mCallO (lenO 1 o_cycles_of) (mCons (mLst (mCallO (lenO 2 o_want_deal) (mCons (mVar 0) (mCons (mVar 1) mNil)))) mNil))))
def d_cycles : List D → Mo D := runD 2 m_cycles
def o_cycles : List D → Mo (List D) := runO 2 m_cycles
theorem b_cycles {P : Program} {w : World} {K : Fr'} {mg : Str → Option Value} {base : Heap} (Z : Zx P w K mg base) (cdv : Value) (A : Around) (outer : List Env) (s : Shared) (H : Hp) (E : XK) (hr : Room 9 (A.deeper (envOfC "cycles" (defScope (top 43)) s.heap.objs.size (He.ga K "cycles") cdv))) (hg : false = true → A.guards = some []) :
    PSsD (csK K) (cx0 P w K mg base N_cycles "cycles" (defScope (top 43)) (He.ga K "cycles") cdv A outer s H E) (defBody (top 43)) m_cycles := by
  obtain ⟨fd_cycles_of, F_cycles_of, FO_cycles_of, hk_cycles_of, hb_cycles_of, _⟩ := w_cycles_of Z
  obtain ⟨fd_want_deal, F_want_deal, FO_want_deal, hk_want_deal, hb_want_deal, _⟩ := w_want_deal Z
  obtain ⟨fd_want_prime, F_want_prime, FO_want_prime, hk_want_prime, hb_want_prime, _⟩ := w_want_prime Z
  exact (ss_cons (s_expr (p_call F_want_prime (hr.mono (by decide)) (fun (z : false = true) => nomatch z) (Z.glo_want_prime) hk_want_prime hb_want_prime (DL.pa_cons (p_var 0) DL.pa_nil))) (ss_one (s_retO (p_callO FO_cycles_of (hr.mono (by decide)) (fun (z : false = true) => nomatch z) (Z.glo_cycles_of) hk_cycles_of hb_cycles_of (DL.pa_cons (POD.d (p_callO FO_want_deal (hr.mono (by decide)) (fun (z : false = true) => nomatch z) (Z.glo_want_deal) hk_want_deal hb_want_deal (DL.pa_cons (p_var 0) (DL.pa_cons (p_var 1) DL.pa_nil)))) DL.pa_nil)))))
theorem w_cycles {P : Program} {w : World} {K : Fr'} {mg : Str → Option Value} {base : Heap} (Z : Zx P w K mg base) : ∃ fd, FnD false P w K mg base 10 (He.ga K "cycles") fd ["prime", "deal"] (spD K (csK K) 2 d_cycles) ∧ FnD false P w K mg base 10 (He.ga K "cycles") fd ["prime", "deal"] (spO K (csK K) 2 o_cycles) ∧ PySem.W.keepIn K (.ref (He.ga K "cycles")) = true ∧ Binds K fd ["prime", "deal"] [] ∧ KwB fd ["prime", "deal"] ["deal", "prime"] [1, 0] ∧ True := by
  obtain ⟨fd, D⟩ := Z.says.def_ 27 (d := z_cycles)
  refine ⟨fd, fn_d (N := N_cycles) D S_cycles fun cdv A outer s H E hr hg => b_cycles Z cdv A outer s H E hr hg, fn_dO (N := N_cycles) D S_cycles fun cdv A outer s H E hr hg => b_cycles Z cdv A outer s H E hr hg, D.kp, D.bindsN (fun _ _ _ _ _ _ us hl => match us, hl with
    | [a0, a1], _ => rfl), FunD.kwB D ["prime", "deal"] ["deal", "prime"] [1, 0] (fun _ _ _ _ _ _ us hl => match us, hl with
    | [a0, a1], _ => rfl), trivial⟩
/-! order -/
def N_order : List Str := ["prime", "deal", "row"]
theorem S_order : FnScope N_order ["prime", "deal"] (defScope (top 44)) := ⟨rfl, rfl, rfl, by decide +kernel, rfl, by decide +kernel, by decide +kernel⟩
def m_order : MS := (mSeq (mDrop (mCall (lenM 1 d_want_prime) (mCons (mVar 0) mNil))) (mRet (mCall (lenM 1 d_common_multiple) (mCons (mLst (mLc (srcL (mLst (mCallO (lenO 1 o_cycles_of) (mCons (mLst (mCallO (lenO 2 o_want_deal) (mCons (mVar 0) (mCons (mVar 1) mNil)))) mNil)))) [2] (tgN 2) mYes (mCall cLen (mCons (mVar 2) mNil)))) mNil))))
def d_order : List D → Mo D := runD 3 m_order
theorem b_order {P : Program} {w : World} {K : Fr'} {mg : Str → Option Value} {base : Heap} (Z : Zx P w K mg base) (cdv : Value) (A : Around) (outer : List Env) (s : Shared) (H : Hp) (E : XK) (hr : Room 9 (A.deeper (envOfC "order" (defScope (top 44)) s.heap.objs.size (He.ga K "order") cdv))) (hg : false = true → A.guards = some []) :
    PSsD (csK K) (cx0 P w K mg base N_order "order" (defScope (top 44)) (He.ga K "order") cdv A outer s H E) (defBody (top 44)) m_order := by
  obtain ⟨fd_common_multiple, F_common_multiple, FO_common_multiple, hk_common_multiple, hb_common_multiple, _⟩ := w_common_multiple Z
  obtain ⟨fd_cycles_of, F_cycles_of, FO_cycles_of, hk_cycles_of, hb_cycles_of, _⟩ := w_cycles_of Z
  obtain ⟨fd_want_deal, F_want_deal, FO_want_deal, hk_want_deal, hb_want_deal, _⟩ := w_want_deal Z
  obtain ⟨fd_want_prime, F_want_prime, FO_want_prime, hk_want_prime, hb_want_prime, _⟩ := w_want_prime Z
  exact (ss_cons (s_expr (p_call F_want_prime (hr.mono (by decide)) (fun (z : false = true) => nomatch z) (Z.glo_want_prime) hk_want_prime hb_want_prime (DL.pa_cons (p_var 0) DL.pa_nil))) (ss_one (s_ret (p_call F_common_multiple (hr.mono (by decide)) (fun (z : false = true) => nomatch z) (Z.glo_common_multiple) hk_common_multiple hb_common_multiple (DL.pa_cons (POD.d (o_lc [("row", 2)] rfl S_order.nd (blkOk_by rfl) ((i_list (POD.d (p_callO FO_cycles_of (hr.mono (by decide)) (fun (z : false = true) => nomatch z) (Z.glo_cycles_of) hk_cycles_of hb_cycles_of (DL.pa_cons (POD.d (p_callO FO_want_deal (hr.mono (by decide)) (fun (z : false = true) => nomatch z) (Z.glo_want_deal) hk_want_deal hb_want_deal (DL.pa_cons (p_var 0) (DL.pa_cons (p_var 1) DL.pa_nil)))) DL.pa_nil))))).j (fun _ _ _ _ _ => (g_name 2 S_order.nd)) (fun _ _ _ _ _ => ts_nil) (fun _ _ _ _ _ => (p_bltn ca_len Z.fr_len (DL.pa_cons (p_var 2) DL.pa_nil))))) DL.pa_nil)))))
theorem w_order {P : Program} {w : World} {K : Fr'} {mg : Str → Option Value} {base : Heap} (Z : Zx P w K mg base) : ∃ fd, FnD false P w K mg base 10 (He.ga K "order") fd ["prime", "deal"] (spD K (csK K) 2 d_order) ∧ True ∧ PySem.W.keepIn K (.ref (He.ga K "order")) = true ∧ Binds K fd ["prime", "deal"] [] ∧ KwB fd ["prime", "deal"] ["deal", "prime"] [1, 0] ∧ True := by
  obtain ⟨fd, D⟩ := Z.says.def_ 28 (d := z_order)
  refine ⟨fd, fn_d (N := N_order) D S_order fun cdv A outer s H E hr hg => b_order Z cdv A outer s H E hr hg, trivial, D.kp, D.bindsN (fun _ _ _ _ _ _ us hl => match us, hl with
    | [a0, a1], _ => rfl), FunD.kwB D ["prime", "deal"] ["deal", "prime"] [1, 0] (fun _ _ _ _ _ _ us hl => match us, hl with
    | [a0, a1], _ => rfl), trivial⟩
/-! done_deal -/
def N_done_deal : List Str := ["prime", "deal", "many", "own"]
theorem S_done_deal : FnScope N_done_deal ["prime", "deal", "many"] (defScope (top 45)) := ⟨rfl, rfl, rfl, by decide +kernel, rfl, by decide +kernel, by decide +kernel⟩
def m_done_deal : MS := (mSeq (mDrop (mCall (lenM 1 d_want_prime) (mCons (mVar 0) mNil))) (mSeq (mSet 3 (mLst (mCallO (lenO 2 o_want_deal) (mCons (mVar 0) (mCons (mVar 1) mNil))))) (mSeq (mIfS (mOr (mNot (mB (mCall (lenM 1 d_is_count) (mCons (mVar 2) mNil)))) (mB (mBin dGt (mVar 2) (mC (.int 1000000))))) mNever mNx) (mRetO (mCallO (lenO 2 o_done_of) (mCons (mVar 3) (mCons (mVar 2) mNil)))))))
def d_done_deal : List D → Mo D := runD 4 m_done_deal
def o_done_deal : List D → Mo (List D) := runO 4 m_done_deal
theorem b_done_deal {P : Program} {w : World} {K : Fr'} {mg : Str → Option Value} {base : Heap} (Z : Zx P w K mg base) (cdv : Value) (A : Around) (outer : List Env) (s : Shared) (H : Hp) (E : XK) (hr : Room 9 (A.deeper (envOfC "done_deal" (defScope (top 45)) s.heap.objs.size (He.ga K "done_deal") cdv))) (hg : false = true → A.guards = some []) :
    PSsD (csK K) (cx0 P w K mg base N_done_deal "done_deal" (defScope (top 45)) (He.ga K "done_deal") cdv A outer s H E) (defBody (top 45)) m_done_deal := by
  obtain ⟨fd_done_of, F_done_of, FO_done_of, hk_done_of, hb_done_of, _⟩ := w_done_of Z
  obtain ⟨fd_is_count, F_is_count, FO_is_count, hk_is_count, hb_is_count, _⟩ := w_is_count Z
  obtain ⟨fd_want_deal, F_want_deal, FO_want_deal, hk_want_deal, hb_want_deal, _⟩ := w_want_deal Z
  obtain ⟨fd_want_prime, F_want_prime, FO_want_prime, hk_want_prime, hb_want_prime, _⟩ := w_want_prime Z
  obtain ⟨t_MOST_TIMES, h_MOST_TIMES⟩ := Z.c_MOST_TIMES
  exact (ss_cons (s_expr (p_call F_want_prime (hr.mono (by decide)) (fun (z : false = true) => nomatch z) (Z.glo_want_prime) hk_want_prime hb_want_prime (DL.pa_cons (p_var 0) DL.pa_nil))) (ss_cons (s_set 3 S_done_deal.nd (POD.d (p_callO FO_want_deal (hr.mono (by decide)) (fun (z : false = true) => nomatch z) (Z.glo_want_deal) hk_want_deal hb_want_deal (DL.pa_cons (p_var 0) (DL.pa_cons (p_var 1) DL.pa_nil))))) (ss_cons (s_if (PWD.pt (DL.pw_or (DL.pt_not (pt_v (p_call F_is_count (hr.mono (by decide)) (fun (z : false = true) => nomatch z) (Z.glo_is_count) hk_is_count hb_is_count (DL.pa_cons (p_var 2) DL.pa_nil)))) (pw_one (pt_cmp op_gtI (p_var 2) (p_gint rfl h_MOST_TIMES) rfl)))) (ss_one s_never) ss_nil) (ss_one (s_retO (p_callO FO_done_of (hr.mono (by decide)) (fun (z : false = true) => nomatch z) (Z.glo_done_of) hk_done_of hb_done_of (DL.pa_cons (p_var 3) (DL.pa_cons (p_var 2) DL.pa_nil))))))))
theorem w_done_deal {P : Program} {w : World} {K : Fr'} {mg : Str → Option Value} {base : Heap} (Z : Zx P w K mg base) : ∃ fd, FnD false P w K mg base 10 (He.ga K "done_deal") fd ["prime", "deal", "many"] (spD K (csK K) 3 d_done_deal) ∧ FnD false P w K mg base 10 (He.ga K "done_deal") fd ["prime", "deal", "many"] (spO K (csK K) 3 o_done_deal) ∧ PySem.W.keepIn K (.ref (He.ga K "done_deal")) = true ∧ Binds K fd ["prime", "deal", "many"] [] ∧ KwB fd ["prime", "deal", "many"] ["many", "deal", "prime"] [2, 1, 0] ∧ True := by
  obtain ⟨fd, D⟩ := Z.says.def_ 29 (d := z_done_deal)
  refine ⟨fd, fn_d (N := N_done_deal) D S_done_deal fun cdv A outer s H E hr hg => b_done_deal Z cdv A outer s H E hr hg, fn_dO (N := N_done_deal) D S_done_deal fun cdv A outer s H E hr hg => b_done_deal Z cdv A outer s H E hr hg, D.kp, D.bindsN (fun _ _ _ _ _ _ us hl => match us, hl with
    | [a0, a1, a2], _ => rfl), FunD.kwB D ["prime", "deal", "many"] ["many", "deal", "prime"] [2, 1, 0] (fun _ _ _ _ _ _ us hl => match us, hl with
    | [a0, a1, a2], _ => rfl), trivial⟩
/-! is_even_deal -/
def N_is_even_deal : List Str := ["prime", "deal"]
theorem S_is_even_deal : FnScope N_is_even_deal ["prime", "deal"] (defScope (top 46)) := ⟨rfl, rfl, rfl, by decide +kernel, rfl, by decide +kernel, by decide +kernel⟩
def m_is_even_deal : MS := (mSeq (mDrop (mCall (lenM 1 d_want_prime) (mCons (mVar 0) mNil))) (mRet (mCall (lenM 1 d_is_even_of) (mCons (mLst (mCallO (lenO 2 o_want_deal) (mCons (mVar 0) (mCons (mVar 1) mNil)))) mNil))))
def d_is_even_deal : List D → Mo D := runD 2 m_is_even_deal
theorem b_is_even_deal {P : Program} {w : World} {K : Fr'} {mg : Str → Option Value} {base : Heap} (Z : Zx P w K mg base) (cdv : Value) (A : Around) (outer : List Env) (s : Shared) (H : Hp) (E : XK) (hr : Room 9 (A.deeper (envOfC "is_even_deal" (defScope (top 46)) s.heap.objs.size (He.ga K "is_even_deal") cdv))) (hg : false = true → A.guards = some []) :
    PSsD (csK K) (cx0 P w K mg base N_is_even_deal "is_even_deal" (defScope (top 46)) (He.ga K "is_even_deal") cdv A outer s H E) (defBody (top 46)) m_is_even_deal := by
  obtain ⟨fd_is_even_of, F_is_even_of, FO_is_even_of, hk_is_even_of, hb_is_even_of, _⟩ := w_is_even_of Z
  obtain ⟨fd_want_deal, F_want_deal, FO_want_deal, hk_want_deal, hb_want_deal, _⟩ := w_want_deal Z
  obtain ⟨fd_want_prime, F_want_prime, FO_want_prime, hk_want_prime, hb_want_prime, _⟩ := w_want_prime Z
  exact (ss_cons (s_expr (p_call F_want_prime (hr.mono (by decide)) (fun (z : false = true) => nomatch z) (Z.glo_want_prime) hk_want_prime hb_want_prime (DL.pa_cons (p_var 0) DL.pa_nil))) (ss_one (s_ret (p_call F_is_even_of (hr.mono (by decide)) (fun (z : false = true) => nomatch z) (Z.glo_is_even_of) hk_is_even_of hb_is_even_of (DL.pa_cons (POD.d (p_callO FO_want_deal (hr.mono (by decide)) (fun (z : false = true) => nomatch z) (Z.glo_want_deal) hk_want_deal hb_want_deal (DL.pa_cons (p_var 0) (DL.pa_cons (p_var 1) DL.pa_nil)))) DL.pa_nil)))))
theorem w_is_even_deal {P : Program} {w : World} {K : Fr'} {mg : Str → Option Value} {base : Heap} (Z : Zx P w K mg base) : ∃ fd, FnD false P w K mg base 10 (He.ga K "is_even_deal") fd ["prime", "deal"] (spD K (csK K) 2 d_is_even_deal) ∧ True ∧ PySem.W.keepIn K (.ref (He.ga K "is_even_deal")) = true ∧ Binds K fd ["prime", "deal"] [] ∧ KwB fd ["prime", "deal"] ["deal", "prime"] [1, 0] ∧ True := by
  obtain ⟨fd, D⟩ := Z.says.def_ 30 (d := z_is_even_deal)
  refine ⟨fd, fn_d (N := N_is_even_deal) D S_is_even_deal fun cdv A outer s H E hr hg => b_is_even_deal Z cdv A outer s H E hr hg, trivial, D.kp, D.bindsN (fun _ _ _ _ _ _ us hl => match us, hl with
    | [a0, a1], _ => rfl), FunD.kwB D ["prime", "deal"] ["deal", "prime"] [1, 0] (fun _ _ _ _ _ _ us hl => match us, hl with
    | [a0, a1], _ => rfl), trivial⟩
/-! is_square -/
def N_is_square : List Str := ["number", "prime", "count"]
theorem S_is_square : FnScope N_is_square ["number", "prime"] (defScope (top 47)) := ⟨rfl, rfl, rfl, by decide +kernel, rfl, by decide +kernel, by decide +kernel⟩
def m_is_square : MS := (mRet (mBin (dInF false) (mCall (lenM 2 d_rest) (mCons (mVar 0) (mCons (mVar 1) mNil))) (mLst (mLc (srcR1 (mCons (mVar 1) mNil)) [2] (tgN 2) mYes (mBin dModI (mCall cInt (mCons (mBin dMulI (mVar 2) (mVar 2)) mNil)) (mVar 1))))))
def d_is_square : List D → Mo D := runD 3 m_is_square
theorem b_is_square {P : Program} {w : World} {K : Fr'} {mg : Str → Option Value} {base : Heap} (Z : Zx P w K mg base) (cdv : Value) (A : Around) (outer : List Env) (s : Shared) (H : Hp) (E : XK) (hr : Room 6 (A.deeper (envOfC "is_square" (defScope (top 47)) s.heap.objs.size (He.ga K "is_square") cdv))) (hg : false = true → A.guards = some []) :
    PSsD (csK K) (cx0 P w K mg base N_is_square "is_square" (defScope (top 47)) (He.ga K "is_square") cdv A outer s H E) (defBody (top 47)) m_is_square := by
  obtain ⟨fd_rest, F_rest, FO_rest, hk_rest, hb_rest, _⟩ := w_rest Z
  exact (ss_one (s_ret (p_cmp (op_inF false) (p_call F_rest (hr.mono (by decide)) (fun (z : false = true) => nomatch z) (Z.glo_rest) hk_rest hb_rest (DL.pa_cons (p_var 0) (DL.pa_cons (p_var 1) DL.pa_nil))) (POD.d (o_lc [("count", 2)] rfl S_is_square.nd (blkOk_by rfl) ((i_range1 Z.fr_range (DL.pa_cons (p_var 1) DL.pa_nil))).j (fun _ _ _ _ _ => (g_name 2 S_is_square.nd)) (fun _ _ _ _ _ => ts_nil) (fun _ _ _ _ _ => (p_bin op_modI (p_type ca_int Z.fr_int (DL.pa_cons (p_bin op_mulI (p_var 2) (p_var 2)) DL.pa_nil)) (p_var 1))))) rfl)))
theorem w_is_square {P : Program} {w : World} {K : Fr'} {mg : Str → Option Value} {base : Heap} (Z : Zx P w K mg base) : ∃ fd, FnD false P w K mg base 7 (He.ga K "is_square") fd ["number", "prime"] (spD K (csK K) 2 d_is_square) ∧ True ∧ PySem.W.keepIn K (.ref (He.ga K "is_square")) = true ∧ Binds K fd ["number", "prime"] [] ∧ KwB fd ["number", "prime"] ["prime", "number"] [1, 0] ∧ True := by
  obtain ⟨fd, D⟩ := Z.says.def_ 31 (d := z_is_square)
  refine ⟨fd, fn_d (N := N_is_square) D S_is_square fun cdv A outer s H E hr hg => b_is_square Z cdv A outer s H E hr hg, trivial, D.kp, D.bindsN (fun _ _ _ _ _ _ us hl => match us, hl with
    | [a0, a1], _ => rfl), FunD.kwB D ["number", "prime"] ["prime", "number"] [1, 0] (fun _ _ _ _ _ _ us hl => match us, hl with
    | [a0, a1], _ => rfl), trivial⟩
/-! _law_draw -/
def N__law_draw : List Str := ["pot", "many", "digit"]
theorem S__law_draw : FnScope N__law_draw ["pot", "many"] (defScope (top 50)) := ⟨rfl, rfl, rfl, by decide +kernel, rfl, by decide +kernel, by decide +kernel⟩
def m__law_draw : MS := (mSeq (mIfS (mB (mBin dGt (mPot 0 false) (mC (.int 0)))) (mSeq (mPotDiv 0 2 (mCall cDivmod (mCons (mPot 0 false) (mCons (mVar 1) mNil)))) (mRet (mVar 2))) mNx) (mSeq (mSetPot 0 true (mBin dModI (mCall cInt (mCons (mBin dAddI (mBin dMulI (mPot 0 true) (mC (.int 40692))) (mC (.int 1787))) mNil)) (mC (.int 2147483563)))) (mRet (mBin dModI (mCall cInt (mCons (mBin dDivI (mBin dModI (mCall cInt (mCons (mBin dMulI (mPot 0 true) (mPot 0 true)) mNil)) (mC (.int 2147483549))) (mC (.int 29))) mNil)) (mVar 1)))))
def d__law_draw : List D → Mo D := runD 3 m__law_draw
theorem b__law_draw {P : Program} {w : World} {K : Fr'} {mg : Str → Option Value} {base : Heap} (Z : Zx P w K mg base) (cdv : Value) (A : Around) (outer : List Env) (s : Shared) (H : Hp) (E : XK) (hr : Room 0 (A.deeper (envOfC "_law_draw" (defScope (top 50)) s.heap.objs.size (He.ga K "_law_draw") cdv))) (hg : false = true → A.guards = some []) :
    PSsD (csK K) (cx0 P w K mg base N__law_draw "_law_draw" (defScope (top 50)) (He.ga K "_law_draw") cdv A outer s H E) (defBody (top 50)) m__law_draw := by
  exact (ss_cons (s_if (pt_cmp op_gtI (p_potIx 0 false) p_int rfl) (ss_cons (s_potDiv 0 2 rfl S__law_draw.nd (p_bltn ca_divmod Z.fr_divmod (DL.pa_cons (p_potIx 0 false) (DL.pa_cons (p_var 1) DL.pa_nil)))) (ss_one (s_ret (p_var 2)))) ss_nil) (ss_cons (s_setPot 0 true (p_bin op_modI (p_type ca_int Z.fr_int (DL.pa_cons (p_bin op_addI (p_bin op_mulI (p_potIx 0 true) p_int) p_int) DL.pa_nil)) p_int)) (ss_one (s_ret (p_bin op_modI (p_type ca_int Z.fr_int (DL.pa_cons (p_bin op_divI (p_bin op_modI (p_type ca_int Z.fr_int (DL.pa_cons (p_bin op_mulI (p_potIx 0 true) (p_potIx 0 true)) DL.pa_nil)) p_int) p_int) DL.pa_nil)) (p_var 1))))))
theorem w__law_draw {P : Program} {w : World} {K : Fr'} {mg : Str → Option Value} {base : Heap} (Z : Zx P w K mg base) : ∃ fd, FnD false P w K mg base 1 (He.ga K "_law_draw") fd ["pot", "many"] (spD K (csK K) 2 d__law_draw) ∧ True ∧ PySem.W.keepIn K (.ref (He.ga K "_law_draw")) = true ∧ Binds K fd ["pot", "many"] [] ∧ True := by
  obtain ⟨fd, D⟩ := Z.says.def_ 33 (d := z__law_draw)
  refine ⟨fd, fn_d (N := N__law_draw) D S__law_draw fun cdv A outer s H E hr hg => b__law_draw Z cdv A outer s H E hr hg, trivial, D.kp, D.bindsN (fun _ _ _ _ _ _ us hl => match us, hl with
    | [a0, a1], _ => rfl), trivial⟩
/-! _law_pick -/
def N__law_pick : List Str := ["pot", "some"]
theorem S__law_pick : FnScope N__law_pick ["pot", "some"] (defScope (top 51)) := ⟨rfl, rfl, rfl, by decide +kernel, rfl, by decide +kernel, by decide +kernel⟩
def m__law_pick : MS := (mRet (mBin atD (mVar 1) (mCall (lenM 2 d__law_draw) (mCons (mVar 0) (mCons (mCall cLen (mCons (mVar 1) mNil)) mNil)))))
def d__law_pick : List D → Mo D := runD 2 m__law_pick
theorem b__law_pick {P : Program} {w : World} {K : Fr'} {mg : Str → Option Value} {base : Heap} (Z : Zx P w K mg base) (cdv : Value) (A : Around) (outer : List Env) (s : Shared) (H : Hp) (E : XK) (hr : Room 1 (A.deeper (envOfC "_law_pick" (defScope (top 51)) s.heap.objs.size (He.ga K "_law_pick") cdv))) (hg : false = true → A.guards = some []) :
    PSsD (csK K) (cx0 P w K mg base N__law_pick "_law_pick" (defScope (top 51)) (He.ga K "_law_pick") cdv A outer s H E) (defBody (top 51)) m__law_pick := by
  obtain ⟨fd__law_draw, F__law_draw, FO__law_draw, hk__law_draw, hb__law_draw, _⟩ := w__law_draw Z
  exact (ss_one (s_ret (p_ix (p_var 1) (p_call F__law_draw (hr.mono (by decide)) (fun (z : false = true) => nomatch z) (Z.glo__law_draw) hk__law_draw hb__law_draw (DL.pa_cons (p_var 0) (DL.pa_cons (p_bltn ca_len Z.fr_len (DL.pa_cons (p_var 1) DL.pa_nil)) DL.pa_nil))))))
theorem w__law_pick {P : Program} {w : World} {K : Fr'} {mg : Str → Option Value} {base : Heap} (Z : Zx P w K mg base) : ∃ fd, FnD false P w K mg base 2 (He.ga K "_law_pick") fd ["pot", "some"] (spD K (csK K) 2 d__law_pick) ∧ True ∧ PySem.W.keepIn K (.ref (He.ga K "_law_pick")) = true ∧ Binds K fd ["pot", "some"] [] ∧ True := by
  obtain ⟨fd, D⟩ := Z.says.def_ 34 (d := z__law_pick)
  refine ⟨fd, fn_d (N := N__law_pick) D S__law_pick fun cdv A outer s H E hr hg => b__law_pick Z cdv A outer s H E hr hg, trivial, D.kp, D.bindsN (fun _ _ _ _ _ _ us hl => match us, hl with
    | [a0, a1], _ => rfl), trivial⟩
/-! _law_mixed -/
def N__law_mixed : List Str := ["pot", "many", "left", "found"]
theorem S__law_mixed : FnScope N__law_mixed ["pot", "many"] (defScope (top 52)) := ⟨rfl, rfl, rfl, by decide +kernel, rfl, by decide +kernel, by decide +kernel⟩
def m__law_mixed : MS := (mSeq (mParOO 2 3 (oRg1 (mVar 1)) (mNew mNil)) (mSeq (mWhile (mBorT 2 (mB (mBin (dEqU true) (mVar 2) (mLst (mNew mNil))))) (mAppPop 3 2 (mCall (lenM 2 d__law_draw) (mCons (mVar 0) (mCons (mLen (mVarB 2)) mNil))))) (mRetX 3)))
def d__law_mixed : List D → Mo D := runD 4 m__law_mixed
def o__law_mixed : List D → Mo (List D) := runO 4 m__law_mixed
theorem b__law_mixed {P : Program} {w : World} {K : Fr'} {mg : Str → Option Value} {base : Heap} (Z : Zx P w K mg base) (cdv : Value) (A : Around) (outer : List Env) (s : Shared) (H : Hp) (E : XK) (hr : Room 6 (A.deeper (envOfC "_law_mixed" (defScope (top 52)) s.heap.objs.size (He.ga K "_law_mixed") cdv))) (hg : false = true → A.guards = some []) :
    PSsD (csK K) (cx0 P w K mg base N__law_mixed "_law_mixed" (defScope (top 52)) (He.ga K "_law_mixed") cdv A outer s H E) (defBody (top 52)) m__law_mixed := by
  obtain ⟨fd__law_draw, F__law_draw, FO__law_draw, hk__law_draw, hb__law_draw, _⟩ := w__law_draw Z
  exact (ss_cons (s_parOO 2 3 rfl S__law_mixed.nd (o_listRg1 rfl Z.fr_list Z.fr_range (p_var 1)) (o_lst DL.pa_nil) rfl) (ss_cons (s_while PassesOwn.never (pt_bor 2 (pt_cmp (op_eqU Z (hr.mono (by decide)) true) (p_var 2) (POD.d (o_lst DL.pa_nil)) rfl)) (ss_one (s_appPop 3 2 (p_call F__law_draw (hr.mono (by decide)) (fun (z : false = true) => nomatch z) (Z.glo__law_draw) hk__law_draw hb__law_draw (DL.pa_cons (p_var 0) (DL.pa_cons (p_lenB Z.fr_len (b_var 2)) DL.pa_nil)))))) (ss_one (s_retX 3))))
theorem w__law_mixed {P : Program} {w : World} {K : Fr'} {mg : Str → Option Value} {base : Heap} (Z : Zx P w K mg base) : ∃ fd, FnD false P w K mg base 7 (He.ga K "_law_mixed") fd ["pot", "many"] (spD K (csK K) 2 d__law_mixed) ∧ FnD false P w K mg base 7 (He.ga K "_law_mixed") fd ["pot", "many"] (spO K (csK K) 2 o__law_mixed) ∧ PySem.W.keepIn K (.ref (He.ga K "_law_mixed")) = true ∧ Binds K fd ["pot", "many"] [] ∧ True := by
  obtain ⟨fd, D⟩ := Z.says.def_ 35 (d := z__law_mixed)
  refine ⟨fd, fn_d (N := N__law_mixed) D S__law_mixed fun cdv A outer s H E hr hg => b__law_mixed Z cdv A outer s H E hr hg, fn_dO (N := N__law_mixed) D S__law_mixed fun cdv A outer s H E hr hg => b__law_mixed Z cdv A outer s H E hr hg, D.kp, D.bindsN (fun _ _ _ _ _ _ us hl => match us, hl with
    | [a0, a1], _ => rfl), trivial⟩
/-! _law_by_rounds -/
def N__law_by_rounds : List Str := ["pot", "many", "spots", "found", "size", "row", "at", "spot"]
theorem S__law_by_rounds : FnScope N__law_by_rounds ["pot", "many"] (defScope (top 53)) := ⟨rfl, rfl, rfl, by decide +kernel, rfl, by decide +kernel, by decide +kernel⟩
def m__law_by_rounds : MS := (mSeq (mParVO 2 3 (mLst (mCallO (lenO 2 o__law_mixed) (mCons (mVar 0) (mCons (mVar 1) mNil)))) (oRep (mLst (mNew (mCons (mC (.int 0)) mNil))) (mVar 1))) (mSeq (mWhile (mB (mBin (dEqU true) (mVar 2) (mLst (mNew mNil)))) (mSeq (mSet 4 (mCall cMin2 (mCons (mCall cLen (mCons (mVar 2) mNil)) (mCons (mBin dAddI (mC (.int 1)) (mCall (lenM 2 d__law_draw) (mCons (mVar 0) (mCons (mCall (lenM 2 d__law_pick) (mCons (mVar 0) (mCons (mLst (mNew (mCons (mC (.int 2)) (mCons (mC (.int 3)) (mCons (mC (.int 6)) (mCons (mVar 1) mNil)))))) mNil))) mNil)))) mNil)))) (mSeq (mPar 5 2 (mCons (mLst (oSlice (mVar 2) mNoP (mPart (mVar 4)))) (mCons (mLst (oSlice (mVar 2) (mPart (mVar 4)) mNoP)) mNil))) (mFor (srcE (mCons (mVar 5) mNil)) (tgTup 2 (tgCons (tgN 6) (tgCons (tgN 7) tgNil))) (mSetIx 3 (mIf (mB (mBin dLt (mBin dAddI (mVar 6) (mC (.int 1))) (mVar 4))) (mBin atD (mVar 5) (mBin dAddI (mVar 6) (mC (.int 1)))) (mBin atD (mVar 5) (mC (.int 0)))) (mVar 7)))))) (mRetX 3)))
def d__law_by_rounds : List D → Mo D := runD 8 m__law_by_rounds
def o__law_by_rounds : List D → Mo (List D) := runO 8 m__law_by_rounds
theorem b__law_by_rounds {P : Program} {w : World} {K : Fr'} {mg : Str → Option Value} {base : Heap} (Z : Zx P w K mg base) (cdv : Value) (A : Around) (outer : List Env) (s : Shared) (H : Hp) (E : XK) (hr : Room 7 (A.deeper (envOfC "_law_by_rounds" (defScope (top 53)) s.heap.objs.size (He.ga K "_law_by_rounds") cdv))) (hg : false = true → A.guards = some []) :
    PSsD (csK K) (cx0 P w K mg base N__law_by_rounds "_law_by_rounds" (defScope (top 53)) (He.ga K "_law_by_rounds") cdv A outer s H E) (defBody (top 53)) m__law_by_rounds := by
  obtain ⟨fd__law_draw, F__law_draw, FO__law_draw, hk__law_draw, hb__law_draw, _⟩ := w__law_draw Z
  obtain ⟨fd__law_mixed, F__law_mixed, FO__law_mixed, hk__law_mixed, hb__law_mixed, _⟩ := w__law_mixed Z
  obtain ⟨fd__law_pick, F__law_pick, FO__law_pick, hk__law_pick, hb__law_pick, _⟩ := w__law_pick Z
  exact (ss_cons (s_parVO 2 3 rfl S__law_by_rounds.nd (POD.d (p_callO FO__law_mixed (hr.mono (by decide)) (fun (z : false = true) => nomatch z) (Z.glo__law_mixed) hk__law_mixed hb__law_mixed (DL.pa_cons (p_var 0) (DL.pa_cons (p_var 1) DL.pa_nil)))) (o_rep (POD.d (o_lst (DL.pa_cons p_int DL.pa_nil))) (p_var 1)) rfl) (ss_cons (s_while PassesOwn.never (pt_cmp (op_eqU Z (hr.mono (by decide)) true) (p_var 2) (POD.d (o_lst DL.pa_nil)) rfl) (ss_cons (s_set 4 S__law_by_rounds.nd (p_bltn (ca_min2 rfl) Z.fr_min (DL.pa_cons (p_bltn ca_len Z.fr_len (DL.pa_cons (p_var 2) DL.pa_nil)) (DL.pa_cons (p_bin op_addI p_int (p_call F__law_draw (hr.mono (by decide)) (fun (z : false = true) => nomatch z) (Z.glo__law_draw) hk__law_draw hb__law_draw (DL.pa_cons (p_var 0) (DL.pa_cons (p_call F__law_pick (hr.mono (by decide)) (fun (z : false = true) => nomatch z) (Z.glo__law_pick) hk__law_pick hb__law_pick (DL.pa_cons (p_var 0) (DL.pa_cons (POD.d (o_lst (DL.pa_cons p_int (DL.pa_cons p_int (DL.pa_cons p_int (DL.pa_cons (p_var 1) DL.pa_nil)))))) DL.pa_nil))) DL.pa_nil)))) DL.pa_nil)))) (ss_cons (s_par 5 2 rfl S__law_by_rounds.nd (DL.pa_cons (POD.d (oSliceB ((p_var 2)).bo x_none (x_some (p_var 4)))) (DL.pa_cons (POD.d (oSliceB ((p_var 2)).bo (x_some (p_var 4)) x_none)) DL.pa_nil)) rfl) (ss_one (s_for PassesOwn.never rfl (i_enum Z.fr_enumerate (DL.pa_cons (p_var 5) DL.pa_nil)) (g_tup rfl (gs_cons (g_name 6 S__law_by_rounds.nd) (gs_cons (g_name 7 S__law_by_rounds.nd) gs_nil))) (ss_one (s_setIx 3 (p_if (pt_cmp op_ltI (p_bin op_addI (p_var 6) p_int) (p_var 4) rfl) (p_ix (p_var 5) (p_bin op_addI (p_var 6) p_int)) (p_ix (p_var 5) p_int)) (p_var 7)))))))) (ss_one (s_retX 3))))
theorem w__law_by_rounds {P : Program} {w : World} {K : Fr'} {mg : Str → Option Value} {base : Heap} (Z : Zx P w K mg base) : ∃ fd, FnD false P w K mg base 8 (He.ga K "_law_by_rounds") fd ["pot", "many"] (spD K (csK K) 2 d__law_by_rounds) ∧ FnD false P w K mg base 8 (He.ga K "_law_by_rounds") fd ["pot", "many"] (spO K (csK K) 2 o__law_by_rounds) ∧ PySem.W.keepIn K (.ref (He.ga K "_law_by_rounds")) = true ∧ Binds K fd ["pot", "many"] [] ∧ True := by
  obtain ⟨fd, D⟩ := Z.says.def_ 36 (d := z__law_by_rounds)
  refine ⟨fd, fn_d (N := N__law_by_rounds) D S__law_by_rounds fun cdv A outer s H E hr hg => b__law_by_rounds Z cdv A outer s H E hr hg, fn_dO (N := N__law_by_rounds) D S__law_by_rounds fun cdv A outer s H E hr hg => b__law_by_rounds Z cdv A outer s H E hr hg, D.kp, D.bindsN (fun _ _ _ _ _ _ us hl => match us, hl with
    | [a0, a1], _ => rfl), trivial⟩
/-! _law_deal -/
def N__law_deal : List Str := ["pot", "prime", "many", "way", "found", "turn", "one", "other"]
theorem S__law_deal : FnScope N__law_deal ["pot", "prime"] (defScope (top 54)) := ⟨rfl, rfl, rfl, by decide +kernel, rfl, by decide +kernel, by decide +kernel⟩
def m__law_deal : MS := (mSeq (mPar 2 3 (mCons (mBin dMulI (mVar 1) (mVar 1)) (mCons (mCall (lenM 2 d__law_draw) (mCons (mVar 0) (mCons (mC (.int 4)) mNil))) mNil))) (mSeq (mIfS (mB (mBin (dEqF false) (mVar 3) (mC (.int 0)))) (mRetO (mCallO (lenO 2 o__law_mixed) (mCons (mVar 0) (mCons (mVar 2) mNil)))) mNx) (mSeq (mIfS (mB (mBin (dEqF false) (mVar 3) (mC (.int 1)))) (mRetO (mCallO (lenO 2 o__law_by_rounds) (mCons (mVar 0) (mCons (mVar 2) mNil)))) mNx) (mSeq (mSetO 4 (oRg1 (mVar 2))) (mSeq (mFor (srcR1 (mCons (mCall (lenM 2 d__law_draw) (mCons (mVar 0) (mCons (mC (.int 5)) mNil))) mNil)) (tgN 5) (mSeq (mPar 6 7 (mCons (mCall (lenM 2 d__law_draw) (mCons (mVar 0) (mCons (mVar 2) mNil))) (mCons (mCall (lenM 2 d__law_draw) (mCons (mVar 0) (mCons (mVar 2) mNil))) mNil))) (mSwap 4 6 7 (mTup (mCons (mBin atD (mVarB 4) (mVar 7)) (mCons (mBin atD (mVarB 4) (mVar 6)) mNil)))))) (mRetX 4))))))
def d__law_deal : List D → Mo D := runD 8 m__law_deal
def o__law_deal : List D → Mo (List D) := runO 8 m__law_deal
theorem b__law_deal {P : Program} {w : World} {K : Fr'} {mg : Str → Option Value} {base : Heap} (Z : Zx P w K mg base) (cdv : Value) (A : Around) (outer : List Env) (s : Shared) (H : Hp) (E : XK) (hr : Room 8 (A.deeper (envOfC "_law_deal" (defScope (top 54)) s.heap.objs.size (He.ga K "_law_deal") cdv))) (hg : false = true → A.guards = some []) :
    PSsD (csK K) (cx0 P w K mg base N__law_deal "_law_deal" (defScope (top 54)) (He.ga K "_law_deal") cdv A outer s H E) (defBody (top 54)) m__law_deal := by
  obtain ⟨fd__law_by_rounds, F__law_by_rounds, FO__law_by_rounds, hk__law_by_rounds, hb__law_by_rounds, _⟩ := w__law_by_rounds Z
  obtain ⟨fd__law_draw, F__law_draw, FO__law_draw, hk__law_draw, hb__law_draw, _⟩ := w__law_draw Z
  obtain ⟨fd__law_mixed, F__law_mixed, FO__law_mixed, hk__law_mixed, hb__law_mixed, _⟩ := w__law_mixed Z
  exact (ss_cons (s_par 2 3 rfl S__law_deal.nd (DL.pa_cons (p_bin op_mulI (p_var 1) (p_var 1)) (DL.pa_cons (p_call F__law_draw (hr.mono (by decide)) (fun (z : false = true) => nomatch z) (Z.glo__law_draw) hk__law_draw hb__law_draw (DL.pa_cons (p_var 0) (DL.pa_cons p_int DL.pa_nil))) DL.pa_nil)) rfl) (ss_cons (s_if (pt_cmp (op_eqF false) (p_var 3) p_int rfl) (ss_one (s_retO (p_callO FO__law_mixed (hr.mono (by decide)) (fun (z : false = true) => nomatch z) (Z.glo__law_mixed) hk__law_mixed hb__law_mixed (DL.pa_cons (p_var 0) (DL.pa_cons (p_var 2) DL.pa_nil))))) ss_nil) (ss_cons (s_if (pt_cmp (op_eqF false) (p_var 3) p_int rfl) (ss_one (s_retO (p_callO FO__law_by_rounds (hr.mono (by decide)) (fun (z : false = true) => nomatch z) (Z.glo__law_by_rounds) hk__law_by_rounds hb__law_by_rounds (DL.pa_cons (p_var 0) (DL.pa_cons (p_var 2) DL.pa_nil))))) ss_nil) (ss_cons (s_setO 4 S__law_deal.nd (o_listRg1 rfl Z.fr_list Z.fr_range (p_var 2))) (ss_cons (s_for PassesOwn.never rfl (i_range1 Z.fr_range (DL.pa_cons (p_call F__law_draw (hr.mono (by decide)) (fun (z : false = true) => nomatch z) (Z.glo__law_draw) hk__law_draw hb__law_draw (DL.pa_cons (p_var 0) (DL.pa_cons p_int DL.pa_nil))) DL.pa_nil)) (g_name 5 S__law_deal.nd) (ss_cons (s_par 6 7 rfl S__law_deal.nd (DL.pa_cons (p_call F__law_draw (hr.mono (by decide)) (fun (z : false = true) => nomatch z) (Z.glo__law_draw) hk__law_draw hb__law_draw (DL.pa_cons (p_var 0) (DL.pa_cons (p_var 2) DL.pa_nil))) (DL.pa_cons (p_call F__law_draw (hr.mono (by decide)) (fun (z : false = true) => nomatch z) (Z.glo__law_draw) hk__law_draw hb__law_draw (DL.pa_cons (p_var 0) (DL.pa_cons (p_var 2) DL.pa_nil))) DL.pa_nil)) rfl) (ss_one (s_swap 4 6 7 rfl (p_tup (DL.pa_cons (p_ixB (b_var 4) (p_var 7)) (DL.pa_cons (p_ixB (b_var 4) (p_var 6)) DL.pa_nil))))))) (ss_one (s_retX 4)))))))
theorem w__law_deal {P : Program} {w : World} {K : Fr'} {mg : Str → Option Value} {base : Heap} (Z : Zx P w K mg base) : ∃ fd, FnD false P w K mg base 9 (He.ga K "_law_deal") fd ["pot", "prime"] (spD K (csK K) 2 d__law_deal) ∧ FnD false P w K mg base 9 (He.ga K "_law_deal") fd ["pot", "prime"] (spO K (csK K) 2 o__law_deal) ∧ PySem.W.keepIn K (.ref (He.ga K "_law_deal")) = true ∧ Binds K fd ["pot", "prime"] [] ∧ True := by
  obtain ⟨fd, D⟩ := Z.says.def_ 37 (d := z__law_deal)
  refine ⟨fd, fn_d (N := N__law_deal) D S__law_deal fun cdv A outer s H E hr hg => b__law_deal Z cdv A outer s H E hr hg, fn_dO (N := N__law_deal) D S__law_deal fun cdv A outer s H E hr hg => b__law_deal Z cdv A outer s H E hr hg, D.kp, D.bindsN (fun _ _ _ _ _ _ us hl => match us, hl with
    | [a0, a1], _ => rfl), trivial⟩
/-! _law_rounds -/
def N__law_rounds : List Str := ["deal", "found", "done", "spot", "row", "here"]
theorem S__law_rounds : FnScope N__law_rounds ["deal"] (defScope (top 55)) := ⟨rfl, rfl, rfl, by decide +kernel, rfl, by decide +kernel, by decide +kernel⟩
def m__law_rounds : MS := (mSeq (mParOO 1 2 (mNew mNil) (oRep (mLst (mNew (mCons (mC (.bl false)) mNil))) (mCall cLen (mCons (mVar 0) mNil)))) (mSeq (mFor (srcR1 (mCons (mCall cLen (mCons (mVar 0) mNil)) mNil)) (tgN 3) (mSeq (mParOV 4 5 (mNew mNil) (mVar 3)) (mSeq (mWhile (mNot (mB (mBin atD (mVarB 2) (mVar 5)))) (mSeq (mSetIx 2 (mC (.bl true)) (mVar 5)) (mSeq (mApp 4 (mVar 5)) (mSet 5 (mBin atD (mVar 0) (mVar 5)))))) (mFrz 4 (mExt 1 (mIf (mBorT 4 (mB (mBin (dEqU true) (mVar 4) (mLst (mNew mNil))))) (mLst (mNew (mCons (mVar 4) mNil))) (mLst (mNew mNil)))))))) (mRetX 1)))
def d__law_rounds : List D → Mo D := runD 6 m__law_rounds
def o__law_rounds : List D → Mo (List D) := runO 6 m__law_rounds
theorem b__law_rounds {P : Program} {w : World} {K : Fr'} {mg : Str → Option Value} {base : Heap} (Z : Zx P w K mg base) (cdv : Value) (A : Around) (outer : List Env) (s : Shared) (H : Hp) (E : XK) (hr : Room 6 (A.deeper (envOfC "_law_rounds" (defScope (top 55)) s.heap.objs.size (He.ga K "_law_rounds") cdv))) (hg : false = true → A.guards = some []) :
    PSsD (csK K) (cx0 P w K mg base N__law_rounds "_law_rounds" (defScope (top 55)) (He.ga K "_law_rounds") cdv A outer s H E) (defBody (top 55)) m__law_rounds := by
  exact (ss_cons (s_parOO 1 2 rfl S__law_rounds.nd (o_lst DL.pa_nil) (o_rep (POD.d (o_lst (DL.pa_cons p_bl DL.pa_nil))) (p_bltn ca_len Z.fr_len (DL.pa_cons (p_var 0) DL.pa_nil))) rfl) (ss_cons (s_for PassesOwn.never rfl (i_range1 Z.fr_range (DL.pa_cons (p_bltn ca_len Z.fr_len (DL.pa_cons (p_var 0) DL.pa_nil)) DL.pa_nil)) (g_name 3 S__law_rounds.nd) (ss_cons (s_parOV 4 5 rfl S__law_rounds.nd (o_lst DL.pa_nil) (p_var 3) rfl) (ss_cons (s_while PassesOwn.never (DL.pt_not (pt_v (p_ixB (b_var 2) (p_var 5)))) (ss_cons (s_setIx 2 p_bl (p_var 5)) (ss_cons (s_app 4 (p_var 5)) (ss_one (s_set 5 S__law_rounds.nd (p_ix (p_var 0) (p_var 5))))))) (ss_frz 4 (ss_one (s_ext 1 (p_if (pt_bor 4 (pt_cmp (op_eqU Z (hr.mono (by decide)) true) (p_var 4) (POD.d (o_lst DL.pa_nil)) rfl)) (POD.d (o_lst (DL.pa_cons (p_var 4) DL.pa_nil))) (POD.d (o_lst DL.pa_nil))))))))) (ss_one (s_retX 1))))
theorem w__law_rounds {P : Program} {w : World} {K : Fr'} {mg : Str → Option Value} {base : Heap} (Z : Zx P w K mg base) : ∃ fd, FnD false P w K mg base 7 (He.ga K "_law_rounds") fd ["deal"] (spD K (csK K) 1 d__law_rounds) ∧ FnD false P w K mg base 7 (He.ga K "_law_rounds") fd ["deal"] (spO K (csK K) 1 o__law_rounds) ∧ PySem.W.keepIn K (.ref (He.ga K "_law_rounds")) = true ∧ Binds K fd ["deal"] [] ∧ True := by
  obtain ⟨fd, D⟩ := Z.says.def_ 38 (d := z__law_rounds)
  refine ⟨fd, fn_d (N := N__law_rounds) D S__law_rounds fun cdv A outer s H E hr hg => b__law_rounds Z cdv A outer s H E hr hg, fn_dO (N := N__law_rounds) D S__law_rounds fun cdv A outer s H E hr hg => b__law_rounds Z cdv A outer s H E hr hg, D.kp, D.bindsN (fun _ _ _ _ _ _ us hl => match us, hl with
    | [a0], _ => rfl), trivial⟩
/-! _law_common -/
def N__law_common : List Str := ["one", "other"]
theorem S__law_common : FnScope N__law_common ["one", "other"] (defScope (top 56)) := ⟨rfl, rfl, rfl, by decide +kernel, rfl, by decide +kernel, by decide +kernel⟩
def m__law_common : MS := (mSeq (mWhile (mB (mBin dGt (mVar 1) (mC (.int 0)))) (mPar 0 1 (mCons (mVar 1) (mCons (mBin dModI (mCall cInt (mCons (mVar 0) mNil)) (mVar 1)) mNil)))) (mRet (mVar 0)))
def d__law_common : List D → Mo D := runD 2 m__law_common
theorem b__law_common {P : Program} {w : World} {K : Fr'} {mg : Str → Option Value} {base : Heap} (Z : Zx P w K mg base) (cdv : Value) (A : Around) (outer : List Env) (s : Shared) (H : Hp) (E : XK) (hr : Room 0 (A.deeper (envOfC "_law_common" (defScope (top 56)) s.heap.objs.size (He.ga K "_law_common") cdv))) (hg : false = true → A.guards = some []) :
    PSsD (csK K) (cx0 P w K mg base N__law_common "_law_common" (defScope (top 56)) (He.ga K "_law_common") cdv A outer s H E) (defBody (top 56)) m__law_common := by
  exact (ss_cons (s_while PassesOwn.never (pt_cmp op_gtI (p_var 1) p_int rfl) (ss_one (s_par 0 1 rfl S__law_common.nd (DL.pa_cons (p_var 1) (DL.pa_cons (p_bin op_modI (p_type ca_int Z.fr_int (DL.pa_cons (p_var 0) DL.pa_nil)) (p_var 1)) DL.pa_nil)) rfl))) (ss_one (s_ret (p_var 0))))
theorem w__law_common {P : Program} {w : World} {K : Fr'} {mg : Str → Option Value} {base : Heap} (Z : Zx P w K mg base) : ∃ fd, FnD false P w K mg base 1 (He.ga K "_law_common") fd ["one", "other"] (spD K (csK K) 2 d__law_common) ∧ True ∧ PySem.W.keepIn K (.ref (He.ga K "_law_common")) = true ∧ Binds K fd ["one", "other"] [] ∧ True := by
  obtain ⟨fd, D⟩ := Z.says.def_ 39 (d := z__law_common)
  refine ⟨fd, fn_d (N := N__law_common) D S__law_common fun cdv A outer s H E hr hg => b__law_common Z cdv A outer s H E hr hg, trivial, D.kp, D.bindsN (fun _ _ _ _ _ _ us hl => match us, hl with
    | [a0, a1], _ => rfl), trivial⟩
/-! _law_order -/
def N__law_order : List Str := ["rounds", "found", "row"]
theorem S__law_order : FnScope N__law_order ["rounds"] (defScope (top 57)) := ⟨rfl, rfl, rfl, by decide +kernel, rfl, by decide +kernel, by decide +kernel⟩
def m__law_order : MS := (mSeq (mSet 1 (mC (.int 1))) (mSeq (mFor (srcL (mVar 0)) (tgN 2) (mSet 1 (mBin dMulI (mVar 1) (mBin dDivI (mCall cLen (mCons (mVar 2) mNil)) (mCall (lenM 2 d__law_common) (mCons (mVar 1) (mCons (mCall cLen (mCons (mVar 2) mNil)) mNil))))))) (mRet (mVar 1))))
def d__law_order : List D → Mo D := runD 3 m__law_order
theorem b__law_order {P : Program} {w : World} {K : Fr'} {mg : Str → Option Value} {base : Heap} (Z : Zx P w K mg base) (cdv : Value) (A : Around) (outer : List Env) (s : Shared) (H : Hp) (E : XK) (hr : Room 1 (A.deeper (envOfC "_law_order" (defScope (top 57)) s.heap.objs.size (He.ga K "_law_order") cdv))) (hg : false = true → A.guards = some []) :
    PSsD (csK K) (cx0 P w K mg base N__law_order "_law_order" (defScope (top 57)) (He.ga K "_law_order") cdv A outer s H E) (defBody (top 57)) m__law_order := by
  obtain ⟨fd__law_common, F__law_common, FO__law_common, hk__law_common, hb__law_common, _⟩ := w__law_common Z
  exact (ss_cons (s_set 1 S__law_order.nd p_int) (ss_cons (s_for PassesOwn.never rfl (i_list (p_var 0)) (g_name 2 S__law_order.nd) (ss_one (s_set 1 S__law_order.nd (p_bin op_mulI (p_var 1) (p_bin op_divI (p_bltn ca_len Z.fr_len (DL.pa_cons (p_var 2) DL.pa_nil)) (p_call F__law_common (hr.mono (by decide)) (fun (z : false = true) => nomatch z) (Z.glo__law_common) hk__law_common hb__law_common (DL.pa_cons (p_var 1) (DL.pa_cons (p_bltn ca_len Z.fr_len (DL.pa_cons (p_var 2) DL.pa_nil)) DL.pa_nil)))))))) (ss_one (s_ret (p_var 1)))))
theorem w__law_order {P : Program} {w : World} {K : Fr'} {mg : Str → Option Value} {base : Heap} (Z : Zx P w K mg base) : ∃ fd, FnD false P w K mg base 2 (He.ga K "_law_order") fd ["rounds"] (spD K (csK K) 1 d__law_order) ∧ True ∧ PySem.W.keepIn K (.ref (He.ga K "_law_order")) = true ∧ Binds K fd ["rounds"] [] ∧ True := by
  obtain ⟨fd, D⟩ := Z.says.def_ 40 (d := z__law_order)
  refine ⟨fd, fn_d (N := N__law_order) D S__law_order fun cdv A outer s H E hr hg => b__law_order Z cdv A outer s H E hr hg, trivial, D.kp, D.bindsN (fun _ _ _ _ _ _ us hl => match us, hl with
    | [a0], _ => rfl), trivial⟩
/-! _law_done -/
def N__law_done : List Str := ["deal", "many", "found", "row", "at", "spot"]
theorem S__law_done : FnScope N__law_done ["deal", "many"] (defScope (top 58)) := ⟨rfl, rfl, rfl, by decide +kernel, rfl, by decide +kernel, by decide +kernel⟩
def m__law_done : MS := (mSeq (mSetO 2 (oRep (mLst (mNew (mCons (mC (.int 0)) mNil))) (mCall cLen (mCons (mVar 0) mNil)))) (mSeq (mFor (srcL (mLst (mCallO (lenO 1 o__law_rounds) (mCons (mVar 0) mNil)))) (tgN 3) (mFor (srcE (mCons (mVar 3) mNil)) (tgTup 2 (tgCons (tgN 4) (tgCons (tgN 5) tgNil))) (mSetIx 2 (mBin atD (mVar 3) (mBin dModI (mCall cInt (mCons (mBin dAddI (mVar 4) (mVar 1)) mNil)) (mCall cLen (mCons (mVar 3) mNil)))) (mVar 5)))) (mRetX 2)))
def d__law_done : List D → Mo D := runD 6 m__law_done
def o__law_done : List D → Mo (List D) := runO 6 m__law_done
theorem b__law_done {P : Program} {w : World} {K : Fr'} {mg : Str → Option Value} {base : Heap} (Z : Zx P w K mg base) (cdv : Value) (A : Around) (outer : List Env) (s : Shared) (H : Hp) (E : XK) (hr : Room 7 (A.deeper (envOfC "_law_done" (defScope (top 58)) s.heap.objs.size (He.ga K "_law_done") cdv))) (hg : false = true → A.guards = some []) :
    PSsD (csK K) (cx0 P w K mg base N__law_done "_law_done" (defScope (top 58)) (He.ga K "_law_done") cdv A outer s H E) (defBody (top 58)) m__law_done := by
  obtain ⟨fd__law_rounds, F__law_rounds, FO__law_rounds, hk__law_rounds, hb__law_rounds, _⟩ := w__law_rounds Z
  exact (ss_cons (s_setO 2 S__law_done.nd (o_rep (POD.d (o_lst (DL.pa_cons p_int DL.pa_nil))) (p_bltn ca_len Z.fr_len (DL.pa_cons (p_var 0) DL.pa_nil)))) (ss_cons (s_for PassesOwn.never rfl (i_list (POD.d (p_callO FO__law_rounds (hr.mono (by decide)) (fun (z : false = true) => nomatch z) (Z.glo__law_rounds) hk__law_rounds hb__law_rounds (DL.pa_cons (p_var 0) DL.pa_nil)))) (g_name 3 S__law_done.nd) (ss_one (s_for PassesOwn.never rfl (i_enum Z.fr_enumerate (DL.pa_cons (p_var 3) DL.pa_nil)) (g_tup rfl (gs_cons (g_name 4 S__law_done.nd) (gs_cons (g_name 5 S__law_done.nd) gs_nil))) (ss_one (s_setIx 2 (p_ix (p_var 3) (p_bin op_modI (p_type ca_int Z.fr_int (DL.pa_cons (p_bin op_addI (p_var 4) (p_var 1)) DL.pa_nil)) (p_bltn ca_len Z.fr_len (DL.pa_cons (p_var 3) DL.pa_nil)))) (p_var 5)))))) (ss_one (s_retX 2))))
theorem w__law_done {P : Program} {w : World} {K : Fr'} {mg : Str → Option Value} {base : Heap} (Z : Zx P w K mg base) : ∃ fd, FnD false P w K mg base 8 (He.ga K "_law_done") fd ["deal", "many"] (spD K (csK K) 2 d__law_done) ∧ FnD false P w K mg base 8 (He.ga K "_law_done") fd ["deal", "many"] (spO K (csK K) 2 o__law_done) ∧ PySem.W.keepIn K (.ref (He.ga K "_law_done")) = true ∧ Binds K fd ["deal", "many"] [] ∧ True := by
  obtain ⟨fd, D⟩ := Z.says.def_ 41 (d := z__law_done)
  refine ⟨fd, fn_d (N := N__law_done) D S__law_done fun cdv A outer s H E hr hg => b__law_done Z cdv A outer s H E hr hg, fn_dO (N := N__law_done) D S__law_done fun cdv A outer s H E hr hg => b__law_done Z cdv A outer s H E hr hg, D.kp, D.bindsN (fun _ _ _ _ _ _ us hl => match us, hl with
    | [a0, a1], _ => rfl), trivial⟩
/-! _law_is_even -/
def N__law_is_even : List Str := ["deal", "wrong", "at", "spot", "other"]
theorem S__law_is_even : FnScope N__law_is_even ["deal"] (defScope (top 59)) := ⟨rfl, rfl, rfl, by decide +kernel, rfl, by decide +kernel, by decide +kernel⟩
def m__law_is_even : MS := (mSeq (mSet 1 (mC (.int 0))) (mSeq (mFor (srcE (mCons (mVar 0) mNil)) (tgTup 2 (tgCons (tgN 2) (tgCons (tgN 3) tgNil))) (mSet 1 (mBin dAddI (mVar 1) (mCall cLen (mCons (mLst (mLc (srcL (mLst (oSlice (mVar 0) (mPart (mBin dAddI (mVar 2) (mC (.int 1)))) mNoP))) [4] (tgN 4) (mB (mBin dLt (mVar 4) (mVar 3))) (mVar 4))) mNil))))) (mRet (mBin (dEqF false) (mBin dModI (mCall cInt (mCons (mVar 1) mNil)) (mC (.int 2))) (mC (.int 0))))))
def d__law_is_even : List D → Mo D := runD 5 m__law_is_even
theorem b__law_is_even {P : Program} {w : World} {K : Fr'} {mg : Str → Option Value} {base : Heap} (Z : Zx P w K mg base) (cdv : Value) (A : Around) (outer : List Env) (s : Shared) (H : Hp) (E : XK) (hr : Room 0 (A.deeper (envOfC "_law_is_even" (defScope (top 59)) s.heap.objs.size (He.ga K "_law_is_even") cdv))) (hg : false = true → A.guards = some []) :
    PSsD (csK K) (cx0 P w K mg base N__law_is_even "_law_is_even" (defScope (top 59)) (He.ga K "_law_is_even") cdv A outer s H E) (defBody (top 59)) m__law_is_even := by
  exact (ss_cons (s_set 1 S__law_is_even.nd p_int) (ss_cons (s_for PassesOwn.never rfl (i_enum Z.fr_enumerate (DL.pa_cons (p_var 0) DL.pa_nil)) (g_tup rfl (gs_cons (g_name 2 S__law_is_even.nd) (gs_cons (g_name 3 S__law_is_even.nd) gs_nil))) (ss_one (s_set 1 S__law_is_even.nd (p_bin op_addI (p_var 1) (p_bltn ca_len Z.fr_len (DL.pa_cons (POD.d (o_lc [("other", 4)] rfl S__law_is_even.nd (blkOk_by rfl) ((i_list (POD.d (oSliceB ((p_var 0)).bo (x_some (p_bin op_addI (p_var 2) p_int)) x_none)))).j (fun _ _ _ _ _ => (g_name 4 S__law_is_even.nd)) (fun _ _ _ _ _ => (ts_one (pt_cmp op_ltI (p_var 4) (p_var 3) rfl))) (fun _ _ _ _ _ => (p_var 4)))) DL.pa_nil)))))) (ss_one (s_ret (p_cmp (op_eqF false) (p_bin op_modI (p_type ca_int Z.fr_int (DL.pa_cons (p_var 1) DL.pa_nil)) p_int) p_int rfl)))))
theorem w__law_is_even {P : Program} {w : World} {K : Fr'} {mg : Str → Option Value} {base : Heap} (Z : Zx P w K mg base) : ∃ fd, FnD false P w K mg base 1 (He.ga K "_law_is_even") fd ["deal"] (spD K (csK K) 1 d__law_is_even) ∧ True ∧ PySem.W.keepIn K (.ref (He.ga K "_law_is_even")) = true ∧ Binds K fd ["deal"] [] ∧ True := by
  obtain ⟨fd, D⟩ := Z.says.def_ 42 (d := z__law_is_even)
  refine ⟨fd, fn_d (N := N__law_is_even) D S__law_is_even fun cdv A outer s H E hr hg => b__law_is_even Z cdv A outer s H E hr hg, trivial, D.kp, D.bindsN (fun _ _ _ _ _ _ us hl => match us, hl with
    | [a0], _ => rfl), trivial⟩
/-! _law_one_right -/
def N__law_one_right : List Str := ["pot", "prime", "deal", "shown", "rounds", "due", "turn", "told", "named"]
theorem S__law_one_right : FnScope N__law_one_right ["pot", "prime", "deal"] (defScope (top 60)) := ⟨rfl, rfl, rfl, by decide +kernel, rfl, by decide +kernel, by decide +kernel⟩
def m__law_one_right : MS := (mSeq (mPar 3 4 (mCons (mCall cReprU (mCons (mVar 2) mNil)) (mCons (mLst (mCallO (lenO 1 o__law_rounds) (mCons (mVar 2) mNil))) mNil))) (mSeq (mSet 5 (mLst (mNew (mCons (mVar 4) (mCons (mCall (lenM 1 d__law_order) (mCons (mVar 4) mNil)) (mCons (mCall (lenM 1 d__law_is_even) (mCons (mVar 2) mNil)) (mCons (mLst (mCallO (lenO 2 o__law_done) (mCons (mVar 2) (mCons (mBin dSubI (mCall (lenM 1 d__law_order) (mCons (mVar 4) mNil)) (mC (.int 1))) mNil)))) (mCons (mC (.bl true)) mNil)))))))) (mSeq (mFor (srcR1 (mCons (mC (.int 2)) mNil)) (tgN 6) (mHot 7 3 (mNew (mCons (mLst (mCallO (lenO 2 o_cycles) (mCons (mPl (mVar 1)) (mCons (mLst (mPlO (mCallO oListC (mCons (mVar 2) mNil)))) mNil)))) (mCons (mPl (mCall (lenM 2 d_order) (mCons (mVar 1) (mCons (mCall cTup (mCons (mVar 2) mNil)) mNil)))) (mCons (mPl (mCall (lenM 2 d_is_even_deal) (mCons (mVar 1) (mCons (mLst (mCallO oListC (mCons (mVar 2) mNil))) mNil)))) mNil)))) (mNew (mCons (mLst (mPlO (mCallO (lenO 2 o_undone_deal) (mCons (mVar 1) (mCons (mCall cTup (mCons (mVar 2) mNil)) mNil))))) (mCons (mPl (mCall (lenM 2 d_is_deal) (mCons (mVar 1) (mCons (mVar 2) mNil)))) mNil))) (mB (mBin (dEqU true) (mCall cReprU (mCons (mVar 7) mNil)) (mCall cReprU (mCons (mVar 5) mNil)))) (mC (.bl false)))) (mSeq (mSet 8 (mLst (mNew (mCons (mCall (pickM 2 [1, 0] d_cycles) (mCons (mVar 2) (mCons (mVar 1) mNil))) (mCons (mCall (pickM 2 [1, 0] d_order) (mCons (mVar 2) (mCons (mVar 1) mNil))) (mCons (mCall (pickM 2 [1, 0] d_is_even_deal) (mCons (mVar 2) (mCons (mVar 1) mNil))) mNil)))))) (mSeq (mSet 8 (mLst (oCat (mVar 8) (mLst (mNew (mCons (mCall (pickM 2 [1, 0] d_undone_deal) (mCons (mVar 2) (mCons (mVar 1) mNil))) (mCons (mCall (pickM 2 [1, 0] d_is_deal) (mCons (mCall cTup (mCons (mVar 2) mNil)) (mCons (mVar 1) mNil))) mNil))))))) (mRet (mTV (mAnd (mB (mBin (dEqU false) (mCall cReprU (mCons (mVar 8) mNil)) (mCall cReprU (mCons (mVar 5) mNil)))) (mB (mBin (dEqU false) (mCall cReprU (mCons (mVar 2) mNil)) (mVar 3)))))))))))
def d__law_one_right : List D → Mo D := runD 9 m__law_one_right
theorem b__law_one_right {P : Program} {w : World} {K : Fr'} {mg : Str → Option Value} {base : Heap} (Z : Zx P w K mg base) (cdv : Value) (A : Around) (outer : List Env) (s : Shared) (H : Hp) (E : XK) (hr : Room 10 (A.deeper (envOfC "_law_one_right" (defScope (top 60)) s.heap.objs.size (He.ga K "_law_one_right") cdv))) (hg : true = true → A.guards = some []) :
    PSsD (csK K) (cx0 P w K mg base N__law_one_right "_law_one_right" (defScope (top 60)) (He.ga K "_law_one_right") cdv A outer s H E) (defBody (top 60)) m__law_one_right := by
  obtain ⟨fd__law_done, F__law_done, FO__law_done, hk__law_done, hb__law_done, _⟩ := w__law_done Z
  obtain ⟨fd__law_is_even, F__law_is_even, FO__law_is_even, hk__law_is_even, hb__law_is_even, _⟩ := w__law_is_even Z
  obtain ⟨fd__law_order, F__law_order, FO__law_order, hk__law_order, hb__law_order, _⟩ := w__law_order Z
  obtain ⟨fd__law_rounds, F__law_rounds, FO__law_rounds, hk__law_rounds, hb__law_rounds, _⟩ := w__law_rounds Z
  obtain ⟨fd_cycles, F_cycles, FO_cycles, hk_cycles, hb_cycles, kw_cycles_0, _⟩ := w_cycles Z
  obtain ⟨fd_is_deal, F_is_deal, FO_is_deal, hk_is_deal, hb_is_deal, kw_is_deal_0, _⟩ := w_is_deal Z
  obtain ⟨fd_is_even_deal, F_is_even_deal, FO_is_even_deal, hk_is_even_deal, hb_is_even_deal, kw_is_even_deal_0, _⟩ := w_is_even_deal Z
  obtain ⟨fd_order, F_order, FO_order, hk_order, hb_order, kw_order_0, _⟩ := w_order Z
  obtain ⟨fd_undone_deal, F_undone_deal, FO_undone_deal, hk_undone_deal, hb_undone_deal, kw_undone_deal_0, _⟩ := w_undone_deal Z
  exact (ss_cons (s_par 3 4 rfl S__law_one_right.nd (DL.pa_cons (p_bltn (ca_reprU Z (hr.mono (by decide)) (hg rfl)) Z.fr_repr (DL.pa_cons (p_var 2) DL.pa_nil)) (DL.pa_cons (POD.d (p_callO FO__law_rounds (hr.mono (by decide)) (fun (z : false = true) => nomatch z) (Z.glo__law_rounds) hk__law_rounds hb__law_rounds (DL.pa_cons (p_var 2) DL.pa_nil))) DL.pa_nil)) rfl) (ss_cons (s_set 5 S__law_one_right.nd (POD.d (o_lst (DL.pa_cons (p_var 4) (DL.pa_cons (p_call F__law_order (hr.mono (by decide)) (fun (z : false = true) => nomatch z) (Z.glo__law_order) hk__law_order hb__law_order (DL.pa_cons (p_var 4) DL.pa_nil)) (DL.pa_cons (p_call F__law_is_even (hr.mono (by decide)) (fun (z : false = true) => nomatch z) (Z.glo__law_is_even) hk__law_is_even hb__law_is_even (DL.pa_cons (p_var 2) DL.pa_nil)) (DL.pa_cons (POD.d (p_callO FO__law_done (hr.mono (by decide)) (fun (z : false = true) => nomatch z) (Z.glo__law_done) hk__law_done hb__law_done (DL.pa_cons (p_var 2) (DL.pa_cons (p_bin op_subI (p_call F__law_order (hr.mono (by decide)) (fun (z : false = true) => nomatch z) (Z.glo__law_order) hk__law_order hb__law_order (DL.pa_cons (p_var 4) DL.pa_nil)) p_int) DL.pa_nil)))) (DL.pa_cons p_bl DL.pa_nil)))))))) (ss_cons (s_for PassesOwn.never rfl (i_range1 Z.fr_range (DL.pa_cons p_int DL.pa_nil)) (g_name 6 S__law_one_right.nd) (s_hot 7 3 (po_disp (pfa_cons (pf_own (po_call FO_cycles (hr.mono (by decide)) (fun (z : false = true) => nomatch z) Z.glo_cycles hk_cycles hb_cycles (pfa_cons (pf_of (p_var 1)) (pfa_cons (pf_own (po_of (o_listOf Z.fr_list (DL.pa_cons (p_var 2) DL.pa_nil)))) pfa_nil)))) (pfa_cons (pf_of (p_call F_order (hr.mono (by decide)) (fun (z : false = true) => nomatch z) (Z.glo_order) hk_order hb_order (DL.pa_cons (p_var 1) (DL.pa_cons (p_type ca_tup Z.fr_tuple (DL.pa_cons (p_var 2) DL.pa_nil)) DL.pa_nil)))) (pfa_cons (pf_of (p_call F_is_even_deal (hr.mono (by decide)) (fun (z : false = true) => nomatch z) (Z.glo_is_even_deal) hk_is_even_deal hb_is_even_deal (DL.pa_cons (p_var 1) (DL.pa_cons (POD.d (o_listOf Z.fr_list (DL.pa_cons (p_var 2) DL.pa_nil))) DL.pa_nil)))) pfa_nil)))) (po_disp (pfa_cons (pf_own (po_of (p_callO FO_undone_deal (hr.mono (by decide)) (fun (z : false = true) => nomatch z) (Z.glo_undone_deal) hk_undone_deal hb_undone_deal (DL.pa_cons (p_var 1) (DL.pa_cons (p_type ca_tup Z.fr_tuple (DL.pa_cons (p_var 2) DL.pa_nil)) DL.pa_nil))))) (pfa_cons (pf_of (p_call F_is_deal (hr.mono (by decide)) (fun (z : false = true) => nomatch z) (Z.glo_is_deal) hk_is_deal hb_is_deal (DL.pa_cons (p_var 1) (DL.pa_cons (p_var 2) DL.pa_nil)))) pfa_nil))) (pt_cmp (op_eqU Z (hr.mono (by decide)) true) (p_bltn (ca_reprU Z (hr.mono (by decide)) (hg rfl)) Z.fr_repr (DL.pa_cons (p_var 7) DL.pa_nil)) (p_bltn (ca_reprU Z (hr.mono (by decide)) (hg rfl)) Z.fr_repr (DL.pa_cons (p_var 5) DL.pa_nil)) rfl) p_bl (fun te h => ps_set S__law_one_right.nd rfl (Or.inl rfl) h) (fun te h => ps_set S__law_one_right.nd rfl (Or.inl rfl) (pe_op op_cat (pe_var (i := 7) rfl (by first | exact Or.inl rfl | exact Or.inr (Or.inl rfl) | exact Or.inr (Or.inr rfl))) h))
    (ps_expr (pe_bm PySem.F.plainAttrs_list PySem.F.slot_list_append PySem.F.type_list_append mt_append (pe_ix ix_list (pe_ix ix_list (pe_var (i := 7) rfl (by first | exact Or.inl rfl | exact Or.inr (Or.inl rfl) | exact Or.inr (Or.inr rfl))) pe_int (fun _ _ => rfl)) pe_int (fun _ _ => rfl)) (L2.pa_cons pe_int L2.pa_nil)))
    (ps_expr (pe_bm0 PySem.F.plainAttrs_list PySem.F.slot_list_reverse PySem.F.type_list_reverse mt_reverse (pe_ix ix_list (pe_var (i := 7) rfl (by first | exact Or.inl rfl | exact Or.inr (Or.inl rfl) | exact Or.inr (Or.inr rfl))) pe_int (fun _ _ => rfl))))
    (ps_expr (pe_bm0 PySem.F.plainAttrs_list PySem.F.slot_list_clear PySem.F.type_list_clear mt_clear (pe_ix ix_list (pe_var (i := 7) rfl (by first | exact Or.inl rfl | exact Or.inr (Or.inl rfl) | exact Or.inr (Or.inr rfl))) pe_int (fun _ _ => rfl)))))) (ss_cons (s_set 8 S__law_one_right.nd (POD.d (o_lst (DL.pa_cons (p_callK (ks := ["deal", "prime"]) (ix := [1, 0]) F_cycles (hr.mono (by decide)) (fun (z : false = true) => nomatch z) (Z.glo_cycles) hk_cycles kw_cycles_0 (k_cons (p_var 2) (k_cons (p_var 1) k_nil))) (DL.pa_cons (p_callK (ks := ["deal", "prime"]) (ix := [1, 0]) F_order (hr.mono (by decide)) (fun (z : false = true) => nomatch z) (Z.glo_order) hk_order kw_order_0 (k_cons (p_var 2) (k_cons (p_var 1) k_nil))) (DL.pa_cons (p_callK (ks := ["deal", "prime"]) (ix := [1, 0]) F_is_even_deal (hr.mono (by decide)) (fun (z : false = true) => nomatch z) (Z.glo_is_even_deal) hk_is_even_deal kw_is_even_deal_0 (k_cons (p_var 2) (k_cons (p_var 1) k_nil))) DL.pa_nil)))))) (ss_cons (s_set 8 S__law_one_right.nd (POD.d (o_cat (p_var 8) (POD.d (o_lst (DL.pa_cons (p_callK (ks := ["deal", "prime"]) (ix := [1, 0]) F_undone_deal (hr.mono (by decide)) (fun (z : false = true) => nomatch z) (Z.glo_undone_deal) hk_undone_deal kw_undone_deal_0 (k_cons (p_var 2) (k_cons (p_var 1) k_nil))) (DL.pa_cons (p_callK (ks := ["value", "prime"]) (ix := [1, 0]) F_is_deal (hr.mono (by decide)) (fun (z : false = true) => nomatch z) (Z.glo_is_deal) hk_is_deal kw_is_deal_0 (k_cons (p_type ca_tup Z.fr_tuple (DL.pa_cons (p_var 2) DL.pa_nil)) (k_cons (p_var 1) k_nil))) DL.pa_nil))))))) (ss_one (s_ret (p_and (p_cmp (op_eqU Z (hr.mono (by decide)) false) (p_bltn (ca_reprU Z (hr.mono (by decide)) (hg rfl)) Z.fr_repr (DL.pa_cons (p_var 8) DL.pa_nil)) (p_bltn (ca_reprU Z (hr.mono (by decide)) (hg rfl)) Z.fr_repr (DL.pa_cons (p_var 5) DL.pa_nil)) rfl) (p_one (p_cmp (op_eqU Z (hr.mono (by decide)) false) (p_bltn (ca_reprU Z (hr.mono (by decide)) (hg rfl)) Z.fr_repr (DL.pa_cons (p_var 2) DL.pa_nil)) (p_var 3) rfl))))))))))
theorem w__law_one_right {P : Program} {w : World} {K : Fr'} {mg : Str → Option Value} {base : Heap} (Z : Zx P w K mg base) : ∃ fd, FnD true P w K mg base 11 (He.ga K "_law_one_right") fd ["pot", "prime", "deal"] (spD K (csK K) 3 d__law_one_right) ∧ True ∧ PySem.W.keepIn K (.ref (He.ga K "_law_one_right")) = true ∧ Binds K fd ["pot", "prime", "deal"] [] ∧ True := by
  obtain ⟨fd, D⟩ := Z.says.def_ 43 (d := z__law_one_right)
  refine ⟨fd, fn_d (N := N__law_one_right) D S__law_one_right fun cdv A outer s H E hr hg => b__law_one_right Z cdv A outer s H E hr hg, trivial, D.kp, D.bindsN (fun _ _ _ _ _ _ us hl => match us, hl with
    | [a0, a1, a2], _ => rfl), trivial⟩
/-! _law_times_right -/
def N__law_times_right : List Str := ["pot", "prime", "deal", "least", "same", "some", "many", "told", "one", "other"]
theorem S__law_times_right : FnScope N__law_times_right ["pot", "prime", "deal"] (defScope (top 61)) := ⟨rfl, rfl, rfl, by decide +kernel, rfl, by decide +kernel, by decide +kernel⟩
def m__law_times_right : MS := (mSeq (mPar 3 4 (mCons (mCall (lenM 1 d__law_order) (mCons (mLst (mCallO (lenO 1 o__law_rounds) (mCons (mVar 2) mNil))) mNil)) (mCons (mLst (oRg1 (mCall cLen (mCons (mVar 2) mNil)))) mNil))) (mSeq (mSet 5 (mLst (oCat (mLst (mNew (mCons (mC (.int 0)) (mCons (mC (.int 1)) (mCons (mC (.int 2)) (mCons (mCall (lenM 2 d__law_draw) (mCons (mVar 0) (mCons (mC (.int 99)) mNil))) (mCons (mCall (lenM 2 d__law_draw) (mCons (mVar 0) (mCons (mBin dAddI (mBin dPowI (mC (.int 10)) (mC (.int 6))) (mC (.int 1))) mNil))) (mCons (mBin dPowI (mC (.int 10)) (mC (.int 6))) mNil)))))))) (mIf (mB (mBin dLe (mVar 3) (mBin dPowI (mC (.int 10)) (mC (.int 6))))) (mLst (mNew (mCons (mVar 3) (mCons (mBin dSubI (mVar 3) (mC (.int 1))) mNil)))) (mLst (mNew mNil)))))) (mSeq (mFor (srcL (mVar 5)) (tgN 6) (mSeq (mSetO 7 (mCallO (lenO 3 o_done_deal) (mCons (mVar 1) (mCons (mVar 2) (mCons (mVar 6) mNil))))) (mSeq (mIfS (mOr (mBorT 7 (mB (mBin (dEqU true) (mCall cReprU (mCons (mVar 7) mNil)) (mCall cReprU (mCons (mLst (mCallO (lenO 2 o__law_done) (mCons (mVar 2) (mCons (mVar 6) mNil)))) mNil))))) (mBorT 7 (mB (mBin (dEqU true) (mBor 7 (mBin (dEqU false) (mVar 7) (mVar 4))) (mBin (dEqU false) (mBin dModI (mCall cInt (mCons (mVar 6) mNil)) (mVar 3)) (mC (.int 0))))))) (mRet (mC (.bl false))) mNx) (mSeq (mApp 7 (mVar 6)) (mIfS (mB (mBin (dEqU true) (mCall cReprU (mCons (mCall (pickM 3 [2, 1, 0] d_done_deal) (mCons (mVar 6) (mCons (mCall cTup (mCons (mVar 2) mNil)) (mCons (mVar 1) mNil)))) mNil)) (mCall cReprU (mCons (mLst (mCallO (lenO 2 o__law_done) (mCons (mVar 2) (mCons (mVar 6) mNil)))) mNil)))) (mRet (mC (.bl false))) mNx))))) (mSeq (mPar 8 9 (mCons (mCall (lenM 2 d__law_draw) (mCons (mVar 0) (mCons (mC (.int 999)) mNil))) (mCons (mCall (lenM 2 d__law_draw) (mCons (mVar 0) (mCons (mC (.int 999)) mNil))) mNil))) (mSeq (mSetO 7 (mCallO (lenO 3 o_behind_deal) (mCons (mVar 1) (mCons (mLst (mCallO (lenO 3 o_done_deal) (mCons (mVar 1) (mCons (mVar 2) (mCons (mVar 8) mNil))))) (mCons (mLst (mCallO (lenO 3 o_done_deal) (mCons (mVar 1) (mCons (mVar 2) (mCons (mVar 9) mNil))))) mNil))))) (mRet (mBor 7 (mBin (dEqU false) (mCall cReprU (mCons (mVar 7) mNil)) (mCall cReprU (mCons (mLst (mCallO (lenO 2 o__law_done) (mCons (mVar 2) (mCons (mBin dAddI (mVar 8) (mVar 9)) mNil)))) mNil))))))))))
def d__law_times_right : List D → Mo D := runD 10 m__law_times_right
theorem b__law_times_right {P : Program} {w : World} {K : Fr'} {mg : Str → Option Value} {base : Heap} (Z : Zx P w K mg base) (cdv : Value) (A : Around) (outer : List Env) (s : Shared) (H : Hp) (E : XK) (hr : Room 10 (A.deeper (envOfC "_law_times_right" (defScope (top 61)) s.heap.objs.size (He.ga K "_law_times_right") cdv))) (hg : true = true → A.guards = some []) :
    PSsD (csK K) (cx0 P w K mg base N__law_times_right "_law_times_right" (defScope (top 61)) (He.ga K "_law_times_right") cdv A outer s H E) (defBody (top 61)) m__law_times_right := by
  obtain ⟨fd__law_done, F__law_done, FO__law_done, hk__law_done, hb__law_done, _⟩ := w__law_done Z
  obtain ⟨fd__law_draw, F__law_draw, FO__law_draw, hk__law_draw, hb__law_draw, _⟩ := w__law_draw Z
  obtain ⟨fd__law_order, F__law_order, FO__law_order, hk__law_order, hb__law_order, _⟩ := w__law_order Z
  obtain ⟨fd__law_rounds, F__law_rounds, FO__law_rounds, hk__law_rounds, hb__law_rounds, _⟩ := w__law_rounds Z
  obtain ⟨fd_behind_deal, F_behind_deal, FO_behind_deal, hk_behind_deal, hb_behind_deal, kw_behind_deal_0, _⟩ := w_behind_deal Z
  obtain ⟨fd_done_deal, F_done_deal, FO_done_deal, hk_done_deal, hb_done_deal, kw_done_deal_0, _⟩ := w_done_deal Z
  exact (ss_cons (s_par 3 4 rfl S__law_times_right.nd (DL.pa_cons (p_call F__law_order (hr.mono (by decide)) (fun (z : false = true) => nomatch z) (Z.glo__law_order) hk__law_order hb__law_order (DL.pa_cons (POD.d (p_callO FO__law_rounds (hr.mono (by decide)) (fun (z : false = true) => nomatch z) (Z.glo__law_rounds) hk__law_rounds hb__law_rounds (DL.pa_cons (p_var 2) DL.pa_nil))) DL.pa_nil)) (DL.pa_cons (POD.d (o_listRg1 rfl Z.fr_list Z.fr_range (p_bltn ca_len Z.fr_len (DL.pa_cons (p_var 2) DL.pa_nil)))) DL.pa_nil)) rfl) (ss_cons (s_set 5 S__law_times_right.nd (POD.d (o_cat (POD.d (o_lst (DL.pa_cons p_int (DL.pa_cons p_int (DL.pa_cons p_int (DL.pa_cons (p_call F__law_draw (hr.mono (by decide)) (fun (z : false = true) => nomatch z) (Z.glo__law_draw) hk__law_draw hb__law_draw (DL.pa_cons (p_var 0) (DL.pa_cons p_int DL.pa_nil))) (DL.pa_cons (p_call F__law_draw (hr.mono (by decide)) (fun (z : false = true) => nomatch z) (Z.glo__law_draw) hk__law_draw hb__law_draw (DL.pa_cons (p_var 0) (DL.pa_cons (p_bin op_addI (p_bin op_powI p_int p_int) p_int) DL.pa_nil))) (DL.pa_cons (p_bin op_powI p_int p_int) DL.pa_nil)))))))) (p_if (pt_cmp op_leI (p_var 3) (p_bin op_powI p_int p_int) rfl) (POD.d (o_lst (DL.pa_cons (p_var 3) (DL.pa_cons (p_bin op_subI (p_var 3) p_int) DL.pa_nil)))) (POD.d (o_lst DL.pa_nil)))))) (ss_cons (s_for PassesOwn.never rfl (i_list (p_var 5)) (g_name 6 S__law_times_right.nd) (ss_cons (s_setO 7 S__law_times_right.nd (p_callO FO_done_deal (hr.mono (by decide)) (fun (z : false = true) => nomatch z) (Z.glo_done_deal) hk_done_deal hb_done_deal (DL.pa_cons (p_var 1) (DL.pa_cons (p_var 2) (DL.pa_cons (p_var 6) DL.pa_nil))))) (ss_cons (s_if (PWD.pt (DL.pw_or (pt_bor 7 (pt_cmp (op_eqU Z (hr.mono (by decide)) true) (p_bltn (ca_reprU Z (hr.mono (by decide)) (hg rfl)) Z.fr_repr (DL.pa_cons (p_var 7) DL.pa_nil)) (p_bltn (ca_reprU Z (hr.mono (by decide)) (hg rfl)) Z.fr_repr (DL.pa_cons (POD.d (p_callO FO__law_done (hr.mono (by decide)) (fun (z : false = true) => nomatch z) (Z.glo__law_done) hk__law_done hb__law_done (DL.pa_cons (p_var 2) (DL.pa_cons (p_var 6) DL.pa_nil)))) DL.pa_nil)) rfl)) (pw_one (pt_bor 7 (pt_cmp (op_eqU Z (hr.mono (by decide)) true) (p_bor 7 (p_cmp (op_eqU Z (hr.mono (by decide)) false) (p_var 7) (p_var 4) rfl)) (p_cmp (op_eqU Z (hr.mono (by decide)) false) (p_bin op_modI (p_type ca_int Z.fr_int (DL.pa_cons (p_var 6) DL.pa_nil)) (p_var 3)) p_int rfl) rfl))))) (ss_one (s_ret p_bl)) ss_nil) (ss_cons (s_app 7 (p_var 6)) (ss_one (s_if (pt_cmp (op_eqU Z (hr.mono (by decide)) true) (p_bltn (ca_reprU Z (hr.mono (by decide)) (hg rfl)) Z.fr_repr (DL.pa_cons (p_callK (ks := ["many", "deal", "prime"]) (ix := [2, 1, 0]) F_done_deal (hr.mono (by decide)) (fun (z : false = true) => nomatch z) (Z.glo_done_deal) hk_done_deal kw_done_deal_0 (k_cons (p_var 6) (k_cons (p_type ca_tup Z.fr_tuple (DL.pa_cons (p_var 2) DL.pa_nil)) (k_cons (p_var 1) k_nil)))) DL.pa_nil)) (p_bltn (ca_reprU Z (hr.mono (by decide)) (hg rfl)) Z.fr_repr (DL.pa_cons (POD.d (p_callO FO__law_done (hr.mono (by decide)) (fun (z : false = true) => nomatch z) (Z.glo__law_done) hk__law_done hb__law_done (DL.pa_cons (p_var 2) (DL.pa_cons (p_var 6) DL.pa_nil)))) DL.pa_nil)) rfl) (ss_one (s_ret p_bl)) ss_nil)))))) (ss_cons (s_par 8 9 rfl S__law_times_right.nd (DL.pa_cons (p_call F__law_draw (hr.mono (by decide)) (fun (z : false = true) => nomatch z) (Z.glo__law_draw) hk__law_draw hb__law_draw (DL.pa_cons (p_var 0) (DL.pa_cons p_int DL.pa_nil))) (DL.pa_cons (p_call F__law_draw (hr.mono (by decide)) (fun (z : false = true) => nomatch z) (Z.glo__law_draw) hk__law_draw hb__law_draw (DL.pa_cons (p_var 0) (DL.pa_cons p_int DL.pa_nil))) DL.pa_nil)) rfl) (ss_cons (s_setO 7 S__law_times_right.nd (p_callO FO_behind_deal (hr.mono (by decide)) (fun (z : false = true) => nomatch z) (Z.glo_behind_deal) hk_behind_deal hb_behind_deal (DL.pa_cons (p_var 1) (DL.pa_cons (POD.d (p_callO FO_done_deal (hr.mono (by decide)) (fun (z : false = true) => nomatch z) (Z.glo_done_deal) hk_done_deal hb_done_deal (DL.pa_cons (p_var 1) (DL.pa_cons (p_var 2) (DL.pa_cons (p_var 8) DL.pa_nil))))) (DL.pa_cons (POD.d (p_callO FO_done_deal (hr.mono (by decide)) (fun (z : false = true) => nomatch z) (Z.glo_done_deal) hk_done_deal hb_done_deal (DL.pa_cons (p_var 1) (DL.pa_cons (p_var 2) (DL.pa_cons (p_var 9) DL.pa_nil))))) DL.pa_nil))))) (ss_one (s_ret (p_bor 7 (p_cmp (op_eqU Z (hr.mono (by decide)) false) (p_bltn (ca_reprU Z (hr.mono (by decide)) (hg rfl)) Z.fr_repr (DL.pa_cons (p_var 7) DL.pa_nil)) (p_bltn (ca_reprU Z (hr.mono (by decide)) (hg rfl)) Z.fr_repr (DL.pa_cons (POD.d (p_callO FO__law_done (hr.mono (by decide)) (fun (z : false = true) => nomatch z) (Z.glo__law_done) hk__law_done hb__law_done (DL.pa_cons (p_var 2) (DL.pa_cons (p_bin op_addI (p_var 8) (p_var 9)) DL.pa_nil)))) DL.pa_nil)) rfl)))))))))
theorem w__law_times_right {P : Program} {w : World} {K : Fr'} {mg : Str → Option Value} {base : Heap} (Z : Zx P w K mg base) : ∃ fd, FnD true P w K mg base 11 (He.ga K "_law_times_right") fd ["pot", "prime", "deal"] (spD K (csK K) 3 d__law_times_right) ∧ True ∧ PySem.W.keepIn K (.ref (He.ga K "_law_times_right")) = true ∧ Binds K fd ["pot", "prime", "deal"] [] ∧ True := by
  obtain ⟨fd, D⟩ := Z.says.def_ 44 (d := z__law_times_right)
  refine ⟨fd, fn_d (N := N__law_times_right) D S__law_times_right fun cdv A outer s H E hr hg => b__law_times_right Z cdv A outer s H E hr hg, trivial, D.kp, D.bindsN (fun _ _ _ _ _ _ us hl => match us, hl with
    | [a0, a1, a2], _ => rfl), trivial⟩
/-! _law_behind_right -/
def N__law_behind_right : List Str := ["pot", "prime", "deal", "other", "due", "shown", "told", "near", "far", "led", "sizes", "spot", "one", "row"]
theorem S__law_behind_right : FnScope N__law_behind_right ["pot", "prime", "deal", "other"] (defScope (top 62)) := ⟨rfl, rfl, rfl, by decide +kernel, rfl, by decide +kernel, by decide +kernel⟩
def m__law_behind_right : MS := (mSeq (mSetO 4 (mLc (srcL (mVar 3)) [11] (tgN 11) mYes (mBin atD (mVar 2) (mVar 11)))) (mSeq (mSet 5 (mCall cReprU (mCons (mLst (mNew (mCons (mVar 2) (mCons (mVar 3) mNil)))) mNil))) (mSeq (mSetO 6 (mCallO (lenO 3 o_behind_deal) (mCons (mVar 1) (mCons (mVar 2) (mCons (mVar 3) mNil))))) (mFrz 4 (mSeq (mIfS (mBorT 6 (mB (mBin (dEqU true) (mCall cReprU (mCons (mLst (mNew (mCons (mVar 6) (mCons (mCall (pickM 3 [2, 1, 0] d_behind_deal) (mCons (mCall cTup (mCons (mVar 3) mNil)) (mCons (mVar 2) (mCons (mVar 1) mNil)))) mNil)))) mNil)) (mCall cReprU (mCons (mLst (mNew (mCons (mVar 4) (mCons (mVar 4) mNil)))) mNil))))) (mRet (mC (.bl false))) mNx) (mSeq (mClr 6) (mFrz 4 (mSeq (mIfS (mB (mBin (dEqU true) (mCall cReprU (mCons (mLst (mCallO (lenO 3 o_behind_deal) (mCons (mVar 1) (mCons (mCall cTup (mCons (mVar 2) mNil)) (mCons (mLst (mCallO oListC (mCons (mVar 3) mNil))) mNil))))) mNil)) (mCall cReprU (mCons (mVar 4) mNil)))) (mRet (mC (.bl false))) mNx) (mFrz 4 (mSeq (mIfS (mB (mBin (dEqU true) (mCall (lenM 2 d_is_even_deal) (mCons (mVar 1) (mCons (mLst (mCallO oListC (mCons (mVar 4) mNil))) mNil))) (mBin (dEqU false) (mCall (lenM 1 d__law_is_even) (mCons (mVar 2) mNil)) (mCall (lenM 1 d__law_is_even) (mCons (mVar 3) mNil))))) (mRet (mC (.bl false))) mNx) (mFrz 4 (mSeq (mPar 7 8 (mCons (mLst (mCallO (lenO 2 o_undone_deal) (mCons (mVar 1) (mCons (mLst (mCallO oListC (mCons (mVar 4) mNil))) mNil)))) (mCons (mLst (mCallO (lenO 3 o_behind_deal) (mCons (mVar 1) (mCons (mLst (mCallO (lenO 2 o_undone_deal) (mCons (mVar 1) (mCons (mVar 3) mNil)))) (mCons (mLst (mCallO (lenO 2 o_undone_deal) (mCons (mVar 1) (mCons (mVar 2) mNil)))) mNil))))) mNil))) (mFrz 4 (mSeq (mIfS (mOr (mB (mBin (dEqU true) (mVar 7) (mVar 8))) (mB (mBin (dEqU true) (mLst (mCallO (lenO 3 o_behind_deal) (mCons (mVar 1) (mCons (mVar 7) (mCons (mLst (mCallO oListC (mCons (mVar 4) mNil))) mNil))))) (mLst (oRg1 (mCall cLen (mCons (mVar 2) mNil))))))) (mRet (mC (.bl false))) mNx) (mFrz 4 (mSeq (mSet 9 (mLst (mCallO (lenO 3 o_behind_deal) (mCons (mVar 1) (mCons (mLst (mCallO oListC (mCons (mVar 4) mNil))) (mCons (mLst (mCallO (lenO 2 o_undone_deal) (mCons (mVar 1) (mCons (mVar 2) mNil)))) mNil)))))) (mSeq (mSetO 10 (mLc (srcL (mLst (mNew (mCons (mVar 9) (mCons (mLst (mCallO (lenO 3 o_behind_deal) (mCons (mVar 1) (mCons (mVar 3) (mCons (mVar 2) mNil))))) mNil))))) [12] (tgN 12) mYes (mCall cSorted (mCons (mLst (mLc (srcL (mLst (mCallO (lenO 2 o_cycles) (mCons (mVar 1) (mCons (mVar 12) mNil))))) [13] (tgN 13) mYes (mCall cLen (mCons (mVar 13) mNil)))) mNil)))) (mFrz 4 (mRet (mTV (mAnd (mB (mBin (dEqU false) (mBin atD (mVarB 10) (mC (.int 0))) (mCall cSorted (mCons (mLst (mLc (srcL (mLst (mCallO (lenO 1 o__law_rounds) (mCons (mVar 3) mNil)))) [13] (tgN 13) mYes (mCall cLen (mCons (mVar 13) mNil)))) mNil)))) (mB (mTV (mAnd (mB (mBin (dEqU false) (mCall (lenM 2 d_order) (mCons (mVar 1) (mCons (mVar 9) mNil))) (mCall (lenM 2 d_order) (mCons (mVar 1) (mCons (mVar 3) mNil))))) (mB (mTV (mAnd (mB (mBin (dEqU false) (mBin atD (mVarB 10) (mC (.int 1))) (mCall cSorted (mCons (mLst (mLc (srcL (mLst (mCallO (lenO 1 o__law_rounds) (mCons (mVar 4) mNil)))) [13] (tgN 13) mYes (mCall cLen (mCons (mVar 13) mNil)))) mNil)))) (mB (mBin (dEqU false) (mCall cReprU (mCons (mLst (mNew (mCons (mVar 2) (mCons (mVar 3) mNil)))) mNil)) (mVar 5))))))))))))))))))))))))))))))
def d__law_behind_right : List D → Mo D := runD 14 m__law_behind_right
theorem b__law_behind_right {P : Program} {w : World} {K : Fr'} {mg : Str → Option Value} {base : Heap} (Z : Zx P w K mg base) (cdv : Value) (A : Around) (outer : List Env) (s : Shared) (H : Hp) (E : XK) (hr : Room 10 (A.deeper (envOfC "_law_behind_right" (defScope (top 62)) s.heap.objs.size (He.ga K "_law_behind_right") cdv))) (hg : true = true → A.guards = some []) :
    PSsD (csK K) (cx0 P w K mg base N__law_behind_right "_law_behind_right" (defScope (top 62)) (He.ga K "_law_behind_right") cdv A outer s H E) (defBody (top 62)) m__law_behind_right := by
  obtain ⟨fd__law_is_even, F__law_is_even, FO__law_is_even, hk__law_is_even, hb__law_is_even, _⟩ := w__law_is_even Z
  obtain ⟨fd__law_rounds, F__law_rounds, FO__law_rounds, hk__law_rounds, hb__law_rounds, _⟩ := w__law_rounds Z
  obtain ⟨fd_behind_deal, F_behind_deal, FO_behind_deal, hk_behind_deal, hb_behind_deal, kw_behind_deal_0, _⟩ := w_behind_deal Z
  obtain ⟨fd_cycles, F_cycles, FO_cycles, hk_cycles, hb_cycles, kw_cycles_0, _⟩ := w_cycles Z
  obtain ⟨fd_is_even_deal, F_is_even_deal, FO_is_even_deal, hk_is_even_deal, hb_is_even_deal, kw_is_even_deal_0, _⟩ := w_is_even_deal Z
  obtain ⟨fd_order, F_order, FO_order, hk_order, hb_order, kw_order_0, _⟩ := w_order Z
  obtain ⟨fd_undone_deal, F_undone_deal, FO_undone_deal, hk_undone_deal, hb_undone_deal, kw_undone_deal_0, _⟩ := w_undone_deal Z
  exact (ss_cons (s_lc 4 [("spot", 11)] rfl S__law_behind_right.nd (sw_true rfl rfl rfl rfl) (blkOk_by rfl) ((i_list (p_var 3))).j (fun _ _ _ _ _ => (g_name 11 S__law_behind_right.nd)) (fun _ _ _ _ _ => ts_nil) (fun _ _ _ _ _ => (p_ix (p_var 2) (p_var 11)))) (ss_cons (s_set 5 S__law_behind_right.nd (p_bltn (ca_reprU Z (hr.mono (by decide)) (hg rfl)) Z.fr_repr (DL.pa_cons (POD.d (o_lst (DL.pa_cons (p_var 2) (DL.pa_cons (p_var 3) DL.pa_nil)))) DL.pa_nil))) (ss_cons (s_setO 6 S__law_behind_right.nd (p_callO FO_behind_deal (hr.mono (by decide)) (fun (z : false = true) => nomatch z) (Z.glo_behind_deal) hk_behind_deal hb_behind_deal (DL.pa_cons (p_var 1) (DL.pa_cons (p_var 2) (DL.pa_cons (p_var 3) DL.pa_nil))))) (ss_frz 4 (ss_cons (s_if (pt_bor 6 (pt_cmp (op_eqU Z (hr.mono (by decide)) true) (p_bltn (ca_reprU Z (hr.mono (by decide)) (hg rfl)) Z.fr_repr (DL.pa_cons (POD.d (o_lst (DL.pa_cons (p_var 6) (DL.pa_cons (p_callK (ks := ["other", "deal", "prime"]) (ix := [2, 1, 0]) F_behind_deal (hr.mono (by decide)) (fun (z : false = true) => nomatch z) (Z.glo_behind_deal) hk_behind_deal kw_behind_deal_0 (k_cons (p_type ca_tup Z.fr_tuple (DL.pa_cons (p_var 3) DL.pa_nil)) (k_cons (p_var 2) (k_cons (p_var 1) k_nil)))) DL.pa_nil)))) DL.pa_nil)) (p_bltn (ca_reprU Z (hr.mono (by decide)) (hg rfl)) Z.fr_repr (DL.pa_cons (POD.d (o_lst (DL.pa_cons (p_var 4) (DL.pa_cons (p_var 4) DL.pa_nil)))) DL.pa_nil)) rfl)) (ss_one (s_ret p_bl)) ss_nil) (ss_cons (s_clr 6) (ss_frz 4 (ss_cons (s_if (pt_cmp (op_eqU Z (hr.mono (by decide)) true) (p_bltn (ca_reprU Z (hr.mono (by decide)) (hg rfl)) Z.fr_repr (DL.pa_cons (POD.d (p_callO FO_behind_deal (hr.mono (by decide)) (fun (z : false = true) => nomatch z) (Z.glo_behind_deal) hk_behind_deal hb_behind_deal (DL.pa_cons (p_var 1) (DL.pa_cons (p_type ca_tup Z.fr_tuple (DL.pa_cons (p_var 2) DL.pa_nil)) (DL.pa_cons (POD.d (o_listOf Z.fr_list (DL.pa_cons (p_var 3) DL.pa_nil))) DL.pa_nil))))) DL.pa_nil)) (p_bltn (ca_reprU Z (hr.mono (by decide)) (hg rfl)) Z.fr_repr (DL.pa_cons (p_var 4) DL.pa_nil)) rfl) (ss_one (s_ret p_bl)) ss_nil) (ss_frz 4 (ss_cons (s_if (pt_cmp (op_eqU Z (hr.mono (by decide)) true) (p_call F_is_even_deal (hr.mono (by decide)) (fun (z : false = true) => nomatch z) (Z.glo_is_even_deal) hk_is_even_deal hb_is_even_deal (DL.pa_cons (p_var 1) (DL.pa_cons (POD.d (o_listOf Z.fr_list (DL.pa_cons (p_var 4) DL.pa_nil))) DL.pa_nil))) (p_cmp (op_eqU Z (hr.mono (by decide)) false) (p_call F__law_is_even (hr.mono (by decide)) (fun (z : false = true) => nomatch z) (Z.glo__law_is_even) hk__law_is_even hb__law_is_even (DL.pa_cons (p_var 2) DL.pa_nil)) (p_call F__law_is_even (hr.mono (by decide)) (fun (z : false = true) => nomatch z) (Z.glo__law_is_even) hk__law_is_even hb__law_is_even (DL.pa_cons (p_var 3) DL.pa_nil)) rfl) rfl) (ss_one (s_ret p_bl)) ss_nil) (ss_frz 4 (ss_cons (s_par 7 8 rfl S__law_behind_right.nd (DL.pa_cons (POD.d (p_callO FO_undone_deal (hr.mono (by decide)) (fun (z : false = true) => nomatch z) (Z.glo_undone_deal) hk_undone_deal hb_undone_deal (DL.pa_cons (p_var 1) (DL.pa_cons (POD.d (o_listOf Z.fr_list (DL.pa_cons (p_var 4) DL.pa_nil))) DL.pa_nil)))) (DL.pa_cons (POD.d (p_callO FO_behind_deal (hr.mono (by decide)) (fun (z : false = true) => nomatch z) (Z.glo_behind_deal) hk_behind_deal hb_behind_deal (DL.pa_cons (p_var 1) (DL.pa_cons (POD.d (p_callO FO_undone_deal (hr.mono (by decide)) (fun (z : false = true) => nomatch z) (Z.glo_undone_deal) hk_undone_deal hb_undone_deal (DL.pa_cons (p_var 1) (DL.pa_cons (p_var 3) DL.pa_nil)))) (DL.pa_cons (POD.d (p_callO FO_undone_deal (hr.mono (by decide)) (fun (z : false = true) => nomatch z) (Z.glo_undone_deal) hk_undone_deal hb_undone_deal (DL.pa_cons (p_var 1) (DL.pa_cons (p_var 2) DL.pa_nil)))) DL.pa_nil))))) DL.pa_nil)) rfl) (ss_frz 4 (ss_cons (s_if (PWD.pt (DL.pw_or (pt_cmp (op_eqU Z (hr.mono (by decide)) true) (p_var 7) (p_var 8) rfl) (pw_one (pt_cmp (op_eqU Z (hr.mono (by decide)) true) (POD.d (p_callO FO_behind_deal (hr.mono (by decide)) (fun (z : false = true) => nomatch z) (Z.glo_behind_deal) hk_behind_deal hb_behind_deal (DL.pa_cons (p_var 1) (DL.pa_cons (p_var 7) (DL.pa_cons (POD.d (o_listOf Z.fr_list (DL.pa_cons (p_var 4) DL.pa_nil))) DL.pa_nil))))) (POD.d (o_listRg1 rfl Z.fr_list Z.fr_range (p_bltn ca_len Z.fr_len (DL.pa_cons (p_var 2) DL.pa_nil)))) rfl)))) (ss_one (s_ret p_bl)) ss_nil) (ss_frz 4 (ss_cons (s_set 9 S__law_behind_right.nd (POD.d (p_callO FO_behind_deal (hr.mono (by decide)) (fun (z : false = true) => nomatch z) (Z.glo_behind_deal) hk_behind_deal hb_behind_deal (DL.pa_cons (p_var 1) (DL.pa_cons (POD.d (o_listOf Z.fr_list (DL.pa_cons (p_var 4) DL.pa_nil))) (DL.pa_cons (POD.d (p_callO FO_undone_deal (hr.mono (by decide)) (fun (z : false = true) => nomatch z) (Z.glo_undone_deal) hk_undone_deal hb_undone_deal (DL.pa_cons (p_var 1) (DL.pa_cons (p_var 2) DL.pa_nil)))) DL.pa_nil)))))) (ss_cons (s_lc 10 [("one", 12)] rfl S__law_behind_right.nd (sw_true rfl rfl rfl rfl) (blkOk_by rfl) ((i_list (POD.d (o_lst (DL.pa_cons (p_var 9) (DL.pa_cons (POD.d (p_callO FO_behind_deal (hr.mono (by decide)) (fun (z : false = true) => nomatch z) (Z.glo_behind_deal) hk_behind_deal hb_behind_deal (DL.pa_cons (p_var 1) (DL.pa_cons (p_var 3) (DL.pa_cons (p_var 2) DL.pa_nil))))) DL.pa_nil)))))).j (fun _ _ _ _ _ => (g_name 12 S__law_behind_right.nd)) (fun _ _ _ _ _ => ts_nil) (fun _ _ _ _ _ => (p_bltn ca_sorted Z.fr_sorted (DL.pa_cons (POD.d (o_lc [("row", 13)] rfl S__law_behind_right.nd (blkOk_by rfl) ((i_list (POD.d (p_callO FO_cycles (hr.mono (by decide)) (fun (z : false = true) => nomatch z) (Z.glo_cycles) hk_cycles hb_cycles (DL.pa_cons (p_var 1) (DL.pa_cons (p_var 12) DL.pa_nil)))))).j (fun _ _ _ _ _ => (g_name 13 S__law_behind_right.nd)) (fun _ _ _ _ _ => ts_nil) (fun _ _ _ _ _ => (p_bltn ca_len Z.fr_len (DL.pa_cons (p_var 13) DL.pa_nil))))) DL.pa_nil)))) (ss_frz 4 (ss_one (s_ret (p_and (p_cmp (op_eqU Z (hr.mono (by decide)) false) (p_ixB (b_var 10) p_int) (p_bltn ca_sorted Z.fr_sorted (DL.pa_cons (POD.d (o_lc [("row", 13)] rfl S__law_behind_right.nd (blkOk_by rfl) ((i_list (POD.d (p_callO FO__law_rounds (hr.mono (by decide)) (fun (z : false = true) => nomatch z) (Z.glo__law_rounds) hk__law_rounds hb__law_rounds (DL.pa_cons (p_var 3) DL.pa_nil))))).j (fun _ _ _ _ _ => (g_name 13 S__law_behind_right.nd)) (fun _ _ _ _ _ => ts_nil) (fun _ _ _ _ _ => (p_bltn ca_len Z.fr_len (DL.pa_cons (p_var 13) DL.pa_nil))))) DL.pa_nil)) rfl) (p_and (p_cmp (op_eqU Z (hr.mono (by decide)) false) (p_call F_order (hr.mono (by decide)) (fun (z : false = true) => nomatch z) (Z.glo_order) hk_order hb_order (DL.pa_cons (p_var 1) (DL.pa_cons (p_var 9) DL.pa_nil))) (p_call F_order (hr.mono (by decide)) (fun (z : false = true) => nomatch z) (Z.glo_order) hk_order hb_order (DL.pa_cons (p_var 1) (DL.pa_cons (p_var 3) DL.pa_nil))) rfl) (p_and (p_cmp (op_eqU Z (hr.mono (by decide)) false) (p_ixB (b_var 10) p_int) (p_bltn ca_sorted Z.fr_sorted (DL.pa_cons (POD.d (o_lc [("row", 13)] rfl S__law_behind_right.nd (blkOk_by rfl) ((i_list (POD.d (p_callO FO__law_rounds (hr.mono (by decide)) (fun (z : false = true) => nomatch z) (Z.glo__law_rounds) hk__law_rounds hb__law_rounds (DL.pa_cons (p_var 4) DL.pa_nil))))).j (fun _ _ _ _ _ => (g_name 13 S__law_behind_right.nd)) (fun _ _ _ _ _ => ts_nil) (fun _ _ _ _ _ => (p_bltn ca_len Z.fr_len (DL.pa_cons (p_var 13) DL.pa_nil))))) DL.pa_nil)) rfl) (p_one (p_cmp (op_eqU Z (hr.mono (by decide)) false) (p_bltn (ca_reprU Z (hr.mono (by decide)) (hg rfl)) Z.fr_repr (DL.pa_cons (POD.d (o_lst (DL.pa_cons (p_var 2) (DL.pa_cons (p_var 3) DL.pa_nil)))) DL.pa_nil)) (p_var 5) rfl)))))))))))))))))))))))))
theorem w__law_behind_right {P : Program} {w : World} {K : Fr'} {mg : Str → Option Value} {base : Heap} (Z : Zx P w K mg base) : ∃ fd, FnD true P w K mg base 11 (He.ga K "_law_behind_right") fd ["pot", "prime", "deal", "other"] (spD K (csK K) 4 d__law_behind_right) ∧ True ∧ PySem.W.keepIn K (.ref (He.ga K "_law_behind_right")) = true ∧ Binds K fd ["pot", "prime", "deal", "other"] [] ∧ True := by
  obtain ⟨fd, D⟩ := Z.says.def_ 45 (d := z__law_behind_right)
  refine ⟨fd, fn_d (N := N__law_behind_right) D S__law_behind_right fun cdv A outer s H E hr hg => b__law_behind_right Z cdv A outer s H E hr hg, trivial, D.kp, D.bindsN (fun _ _ _ _ _ _ us hl => match us, hl with
    | [a0, a1, a2, a3], _ => rfl), trivial⟩
/-! _law_squares_right -/
def N__law_squares_right : List Str := ["pot", "prime", "squares", "number", "due", "count"]
theorem S__law_squares_right : FnScope N__law_squares_right ["pot", "prime"] (defScope (top 63)) := ⟨rfl, rfl, rfl, by decide +kernel, rfl, by decide +kernel, by decide +kernel⟩
def m__law_squares_right : MS := (mSeq (mSetO 2 (mLc (srcR1 (mCons (mVar 1) mNil)) [5] (tgN 5) mYes (mBin dModI (mCall cInt (mCons (mBin dMulI (mVar 5) (mVar 5)) mNil)) (mVar 1)))) (mSeq (mFor (srcL (mLst (oCat (mLst (oRg2 (mUn dNegI (mVar 1)) (mBin dMulI (mC (.int 2)) (mVar 1)))) (mLst (mNew (mCons (mBin dSubI (mCall (lenM 2 d__law_draw) (mCons (mVar 0) (mCons (mBin dPowI (mC (.int 10)) (mC (.int 6))) mNil))) (mC (.int 500000))) mNil)))))) (tgN 3) (mFrz 2 (mSeq (mSet 4 (mBin (dInF false) (mBin dModI (mCall cInt (mCons (mVar 3) mNil)) (mVar 1)) (mVar 2))) (mIfS (mB (mBin (dEqU true) (mCall cReprU (mCons (mLst (mNew (mCons (mCall (lenM 2 d_is_square) (mCons (mVar 3) (mCons (mVar 1) mNil))) (mCons (mCall (pickM 2 [1, 0] d_is_square) (mCons (mVar 1) (mCons (mVar 3) mNil))) mNil)))) mNil)) (mCall cReprU (mCons (mLst (mNew (mCons (mVar 4) (mCons (mVar 4) mNil)))) mNil)))) (mRet (mC (.bl false))) mNx)))) (mRet (mC (.bl true)))))
def d__law_squares_right : List D → Mo D := runD 6 m__law_squares_right
theorem b__law_squares_right {P : Program} {w : World} {K : Fr'} {mg : Str → Option Value} {base : Heap} (Z : Zx P w K mg base) (cdv : Value) (A : Around) (outer : List Env) (s : Shared) (H : Hp) (E : XK) (hr : Room 7 (A.deeper (envOfC "_law_squares_right" (defScope (top 63)) s.heap.objs.size (He.ga K "_law_squares_right") cdv))) (hg : true = true → A.guards = some []) :
    PSsD (csK K) (cx0 P w K mg base N__law_squares_right "_law_squares_right" (defScope (top 63)) (He.ga K "_law_squares_right") cdv A outer s H E) (defBody (top 63)) m__law_squares_right := by
  obtain ⟨fd__law_draw, F__law_draw, FO__law_draw, hk__law_draw, hb__law_draw, _⟩ := w__law_draw Z
  obtain ⟨fd_is_square, F_is_square, FO_is_square, hk_is_square, hb_is_square, kw_is_square_0, _⟩ := w_is_square Z
  exact (ss_cons (s_lc 2 [("count", 5)] rfl S__law_squares_right.nd (sw_true rfl rfl rfl rfl) (blkOk_by rfl) ((i_range1 Z.fr_range (DL.pa_cons (p_var 1) DL.pa_nil))).j (fun _ _ _ _ _ => (g_name 5 S__law_squares_right.nd)) (fun _ _ _ _ _ => ts_nil) (fun _ _ _ _ _ => (p_bin op_modI (p_type ca_int Z.fr_int (DL.pa_cons (p_bin op_mulI (p_var 5) (p_var 5)) DL.pa_nil)) (p_var 1)))) (ss_cons (s_for PassesOwn.never rfl (i_list (POD.d (o_cat (POD.d (o_listRg2 rfl Z.fr_list Z.fr_range (p_neg (p_var 1)) (p_bin op_mulI p_int (p_var 1)))) (POD.d (o_lst (DL.pa_cons (p_bin op_subI (p_call F__law_draw (hr.mono (by decide)) (fun (z : false = true) => nomatch z) (Z.glo__law_draw) hk__law_draw hb__law_draw (DL.pa_cons (p_var 0) (DL.pa_cons (p_bin op_powI p_int p_int) DL.pa_nil))) p_int) DL.pa_nil)))))) (g_name 3 S__law_squares_right.nd) (ss_frz 2 (ss_cons (s_set 4 S__law_squares_right.nd (p_cmp (op_inF false) (p_bin op_modI (p_type ca_int Z.fr_int (DL.pa_cons (p_var 3) DL.pa_nil)) (p_var 1)) (p_var 2) rfl)) (ss_one (s_if (pt_cmp (op_eqU Z (hr.mono (by decide)) true) (p_bltn (ca_reprU Z (hr.mono (by decide)) (hg rfl)) Z.fr_repr (DL.pa_cons (POD.d (o_lst (DL.pa_cons (p_call F_is_square (hr.mono (by decide)) (fun (z : false = true) => nomatch z) (Z.glo_is_square) hk_is_square hb_is_square (DL.pa_cons (p_var 3) (DL.pa_cons (p_var 1) DL.pa_nil))) (DL.pa_cons (p_callK (ks := ["prime", "number"]) (ix := [1, 0]) F_is_square (hr.mono (by decide)) (fun (z : false = true) => nomatch z) (Z.glo_is_square) hk_is_square kw_is_square_0 (k_cons (p_var 1) (k_cons (p_var 3) k_nil))) DL.pa_nil)))) DL.pa_nil)) (p_bltn (ca_reprU Z (hr.mono (by decide)) (hg rfl)) Z.fr_repr (DL.pa_cons (POD.d (o_lst (DL.pa_cons (p_var 4) (DL.pa_cons (p_var 4) DL.pa_nil)))) DL.pa_nil)) rfl) (ss_one (s_ret p_bl)) ss_nil))))) (ss_one (s_ret p_bl))))
theorem w__law_squares_right {P : Program} {w : World} {K : Fr'} {mg : Str → Option Value} {base : Heap} (Z : Zx P w K mg base) : ∃ fd, FnD true P w K mg base 8 (He.ga K "_law_squares_right") fd ["pot", "prime"] (spD K (csK K) 2 d__law_squares_right) ∧ True ∧ PySem.W.keepIn K (.ref (He.ga K "_law_squares_right")) = true ∧ Binds K fd ["pot", "prime"] [] ∧ True := by
  obtain ⟨fd, D⟩ := Z.says.def_ 46 (d := z__law_squares_right)
  refine ⟨fd, fn_d (N := N__law_squares_right) D S__law_squares_right fun cdv A outer s H E hr hg => b__law_squares_right Z cdv A outer s H E hr hg, trivial, D.kp, D.bindsN (fun _ _ _ _ _ _ us hl => match us, hl with
    | [a0, a1], _ => rfl), trivial⟩
/-! _law_right -/
def N__law_right : List Str := ["pot", "prime", "deal", "other"]
theorem S__law_right : FnScope N__law_right ["pot"] (defScope (top 64)) := ⟨rfl, rfl, rfl, by decide +kernel, rfl, by decide +kernel, by decide +kernel⟩
def m__law_right : MS := (mSeq (mSet 1 (mCall (lenM 2 d__law_pick) (mCons (mVar 0) (mCons (mLst (mNew (mCons (mC (.int 3)) (mCons (mC (.int 3)) (mCons (mC (.int 5)) (mCons (mC (.int 7)) (mCons (mC (.int 11)) mNil))))))) mNil)))) (mSeq (mPar 2 3 (mCons (mLst (mCallO (lenO 2 o__law_deal) (mCons (mVar 0) (mCons (mVar 1) mNil)))) (mCons (mLst (mCallO (lenO 2 o__law_deal) (mCons (mVar 0) (mCons (mVar 1) mNil)))) mNil))) (mSeq (mIfS (mOr (mNot (mB (mCall (lenM 3 d__law_one_right) (mCons (mVar 0) (mCons (mVar 1) (mCons (mVar 2) mNil)))))) (mNot (mB (mCall (lenM 3 d__law_times_right) (mCons (mVar 0) (mCons (mVar 1) (mCons (mVar 2) mNil))))))) (mRet (mC (.bl false))) mNx) (mRet (mTV (mAnd (mB (mCall (lenM 4 d__law_behind_right) (mCons (mVar 0) (mCons (mVar 1) (mCons (mVar 2) (mCons (mVar 3) mNil)))))) (mB (mCall (lenM 2 d__law_squares_right) (mCons (mVar 0) (mCons (mVar 1) mNil))))))))))
def d__law_right : List D → Mo D := runD 4 m__law_right
theorem b__law_right {P : Program} {w : World} {K : Fr'} {mg : Str → Option Value} {base : Heap} (Z : Zx P w K mg base) (cdv : Value) (A : Around) (outer : List Env) (s : Shared) (H : Hp) (E : XK) (hr : Room 11 (A.deeper (envOfC "_law_right" (defScope (top 64)) s.heap.objs.size (He.ga K "_law_right") cdv))) (hg : true = true → A.guards = some []) :
    PSsD (csK K) (cx0 P w K mg base N__law_right "_law_right" (defScope (top 64)) (He.ga K "_law_right") cdv A outer s H E) (defBody (top 64)) m__law_right := by
  obtain ⟨fd__law_behind_right, F__law_behind_right, FO__law_behind_right, hk__law_behind_right, hb__law_behind_right, _⟩ := w__law_behind_right Z
  obtain ⟨fd__law_deal, F__law_deal, FO__law_deal, hk__law_deal, hb__law_deal, _⟩ := w__law_deal Z
  obtain ⟨fd__law_one_right, F__law_one_right, FO__law_one_right, hk__law_one_right, hb__law_one_right, _⟩ := w__law_one_right Z
  obtain ⟨fd__law_pick, F__law_pick, FO__law_pick, hk__law_pick, hb__law_pick, _⟩ := w__law_pick Z
  obtain ⟨fd__law_squares_right, F__law_squares_right, FO__law_squares_right, hk__law_squares_right, hb__law_squares_right, _⟩ := w__law_squares_right Z
  obtain ⟨fd__law_times_right, F__law_times_right, FO__law_times_right, hk__law_times_right, hb__law_times_right, _⟩ := w__law_times_right Z
  exact (ss_cons (s_set 1 S__law_right.nd (p_call F__law_pick (hr.mono (by decide)) (fun (z : false = true) => nomatch z) (Z.glo__law_pick) hk__law_pick hb__law_pick (DL.pa_cons (p_var 0) (DL.pa_cons (POD.d (o_lst (DL.pa_cons p_int (DL.pa_cons p_int (DL.pa_cons p_int (DL.pa_cons p_int (DL.pa_cons p_int DL.pa_nil))))))) DL.pa_nil)))) (ss_cons (s_par 2 3 rfl S__law_right.nd (DL.pa_cons (POD.d (p_callO FO__law_deal (hr.mono (by decide)) (fun (z : false = true) => nomatch z) (Z.glo__law_deal) hk__law_deal hb__law_deal (DL.pa_cons (p_var 0) (DL.pa_cons (p_var 1) DL.pa_nil)))) (DL.pa_cons (POD.d (p_callO FO__law_deal (hr.mono (by decide)) (fun (z : false = true) => nomatch z) (Z.glo__law_deal) hk__law_deal hb__law_deal (DL.pa_cons (p_var 0) (DL.pa_cons (p_var 1) DL.pa_nil)))) DL.pa_nil)) rfl) (ss_cons (s_if (PWD.pt (DL.pw_or (DL.pt_not (pt_v (p_call F__law_one_right (hr.mono (by decide)) (fun _ => hg rfl) (Z.glo__law_one_right) hk__law_one_right hb__law_one_right (DL.pa_cons (p_var 0) (DL.pa_cons (p_var 1) (DL.pa_cons (p_var 2) DL.pa_nil)))))) (pw_one (DL.pt_not (pt_v (p_call F__law_times_right (hr.mono (by decide)) (fun _ => hg rfl) (Z.glo__law_times_right) hk__law_times_right hb__law_times_right (DL.pa_cons (p_var 0) (DL.pa_cons (p_var 1) (DL.pa_cons (p_var 2) DL.pa_nil))))))))) (ss_one (s_ret p_bl)) ss_nil) (ss_one (s_ret (p_and (p_call F__law_behind_right (hr.mono (by decide)) (fun _ => hg rfl) (Z.glo__law_behind_right) hk__law_behind_right hb__law_behind_right (DL.pa_cons (p_var 0) (DL.pa_cons (p_var 1) (DL.pa_cons (p_var 2) (DL.pa_cons (p_var 3) DL.pa_nil))))) (p_one (p_call F__law_squares_right (hr.mono (by decide)) (fun _ => hg rfl) (Z.glo__law_squares_right) hk__law_squares_right hb__law_squares_right (DL.pa_cons (p_var 0) (DL.pa_cons (p_var 1) DL.pa_nil))))))))))
theorem w__law_right {P : Program} {w : World} {K : Fr'} {mg : Str → Option Value} {base : Heap} (Z : Zx P w K mg base) : ∃ fd, FnD true P w K mg base 12 (He.ga K "_law_right") fd ["pot"] (spD K (csK K) 1 d__law_right) ∧ True ∧ PySem.W.keepIn K (.ref (He.ga K "_law_right")) = true ∧ Binds K fd ["pot"] [] ∧ True := by
  obtain ⟨fd, D⟩ := Z.says.def_ 47 (d := z__law_right)
  refine ⟨fd, fn_d (N := N__law_right) D S__law_right fun cdv A outer s H E hr hg => b__law_right Z cdv A outer s H E hr hg, trivial, D.kp, D.bindsN (fun _ _ _ _ _ _ us hl => match us, hl with
    | [a0], _ => rfl), trivial⟩
end
end Q
end

section
set_option Elab.async false
set_option linter.all false
set_option maxRecDepth 100000
set_option maxHeartbeats 4000000
/-! Deals of the numbers below N, even or odd. -/
namespace Pa
structure Pm (N : Nat) (f : Nat → Nat) : Prop where
  lt : ∀ i, i < N → f i < N
  inj : ∀ i j, i < N → j < N → f i = f j → i = j
theorem Pm.comp {N : Nat} {f g : Nat → Nat} (hf : Pm N f) (hg : Pm N g) : Pm N (fun i => f (g i)) :=
  ⟨fun i h => hf.lt _ (hg.lt i h), fun i j hi hj e => hg.inj i j hi hj (hf.inj _ _ (hg.lt i hi) (hg.lt j hj) e)⟩
theorem Pm.id {N : Nat} : Pm N (fun i => i) := ⟨fun _ h => h, fun _ _ _ _ e => e⟩
theorem Pm.congr {N : Nat} {f g : Nat → Nat} (hf : Pm N f) (h : ∀ i, i < N → g i = f i) : Pm N g :=
  ⟨fun i hi => by rw [h i hi]; exact hf.lt i hi, fun i j hi hj e => by rw [h i hi, h j hj] at e; exact hf.inj i j hi hj e⟩
def prs (N : Nat) : List (Nat × Nat) := (List.range N).flatMap fun j => (List.range j).map fun i => (i, j)
theorem mem_prs {N : Nat} {q : Nat × Nat} : q ∈ prs N ↔ q.1 < q.2 ∧ q.2 < N := by
  unfold prs
  constructor
  · intro h
    obtain ⟨j, hj, h⟩ := List.mem_flatMap.mp h
    obtain ⟨i, hi, rfl⟩ := List.mem_map.mp h
    exact ⟨List.mem_range.mp hi, List.mem_range.mp hj⟩
  · intro ⟨h1, h2⟩
    exact List.mem_flatMap.mpr ⟨q.2, List.mem_range.mpr h2, List.mem_map.mpr ⟨q.1, List.mem_range.mpr h1, rfl⟩⟩
theorem nodup_prs : ∀ N : Nat, (prs N).Nodup
  | 0 => List.Pairwise.nil
  | N + 1 => by
    have e : prs (N + 1) = prs N ++ (List.range N).map fun i => (i, N) := by
      unfold prs
      rw [List.range_succ, List.flatMap_append]
      simp
    rw [e, List.nodup_append]
    refine ⟨nodup_prs N, ?_, fun q hq r hr z => ?_⟩
    · refine List.pairwise_map.mpr (List.nodup_range.imp fun h z => h (Prod.mk.inj z).1)
    · subst z
      have h1 := (mem_prs.mp hq).2
      obtain ⟨i, _, rfl⟩ := List.mem_map.mp hr
      exact absurd h1 (Nat.lt_irrefl _)
/-- the truths taken together, each turning the answer -/
def xr {α : Type} (p : α → Bool) : List α → Bool
  | [] => false
  | a :: l => p a ^^ xr p l
theorem xr_congr {α : Type} {p q : α → Bool} : ∀ {l : List α}, (∀ x ∈ l, p x = q x) → xr p l = xr q l
  | [], _ => rfl
  | a :: l, h => by
    unfold xr
    rw [h a List.mem_cons_self, xr_congr fun x hx => h x (List.mem_cons_of_mem _ hx)]
theorem xr_xor {α : Type} {p q r : α → Bool} : ∀ {l : List α}, (∀ x ∈ l, p x = (q x ^^ r x)) → xr p l = (xr q l ^^ xr r l)
  | [], _ => rfl
  | a :: l, h => by
    unfold xr
    rw [h a List.mem_cons_self, xr_xor (q := q) (r := r) fun x hx => h x (List.mem_cons_of_mem _ hx)]
    cases q a <;> cases r a <;> cases xr q l <;> cases xr r l <;> rfl
theorem xr_map {α β : Type} {p : β → Bool} {g : α → β} : ∀ {l : List α}, xr p (l.map g) = xr (fun a => p (g a)) l
  | [] => rfl
  | a :: l => by
    rw [List.map_cons]
    unfold xr
    rw [xr_map]
theorem xr_perm {α : Type} {p : α → Bool} {l l' : List α} (h : l.Perm l') : xr p l = xr p l' := by
  induction h with
  | nil => rfl
  | cons a _ ih => unfold xr; rw [ih]
  | swap a b l =>
    unfold xr; unfold xr
    cases p a <;> cases p b <;> cases xr p l <;> rfl
  | trans _ _ i1 i2 => exact i1.trans i2
theorem xr_false {α : Type} {p : α → Bool} : ∀ {l : List α}, (∀ x ∈ l, p x = false) → xr p l = false
  | [], _ => rfl
  | a :: l, h => by
    unfold xr
    rw [h a List.mem_cons_self, xr_false fun x hx => h x (List.mem_cons_of_mem _ hx)]
    rfl
theorem xr_one {α : Type} {p : α → Bool} {x : α} : ∀ {l : List α}, l.Nodup → x ∈ l → p x = true → (∀ y ∈ l, y ≠ x → p y = false) → xr p l = true
  | [], _, h, _, _ => nomatch h
  | a :: l, hn, hx, hp, hf => by
    rw [List.nodup_cons] at hn
    unfold xr
    rcases List.mem_cons.mp hx with rfl | hx
    · have h1 : xr p l = false := xr_false fun y hy => hf y (List.mem_cons_of_mem _ hy) (fun z => hn.1 (by rw [← z]; exact hy))
      rw [hp, h1]
      rfl
    · have hax : a ≠ x := fun z => hn.1 (by rw [z]; exact hx)
      rw [hf a List.mem_cons_self hax, xr_one hn.2 hx hp fun y hy => hf y (List.mem_cons_of_mem _ hy)]
      rfl
theorem nodup_perm {α : Type} [DecidableEq α] : ∀ (l l' : List α), l.Nodup → (∀ x ∈ l, x ∈ l') → l'.length ≤ l.length → l.Perm l'
  | [], l', _, _, h => by
    rw [List.eq_nil_of_length_eq_zero (Nat.le_zero.mp h)]
  | a :: l, l', hn, hs, hl => by
    rw [List.nodup_cons] at hn
    have ha := hs a List.mem_cons_self
    refine ((nodup_perm l (l'.erase a) hn.2 (fun x hx => ?_) ?_).cons a).trans (List.perm_cons_erase ha).symm
    · have hax : x ≠ a := fun z => hn.1 (by rw [← z]; exact hx)
      exact (List.mem_erase_of_ne hax).mpr (hs x (List.mem_cons_of_mem _ hx))
    · rw [List.length_erase_of_mem ha]
      rw [List.length_cons] at hl
      omega
def ivB (f : Nat → Nat) (q : Nat × Nat) : Bool := decide (f q.2 < f q.1)
/-- odd -/
def sg (N : Nat) (f : Nat → Nat) : Bool := xr (ivB f) (prs N)
theorem sg_congr {N : Nat} {f g : Nat → Nat} (h : ∀ i, i < N → f i = g i) : sg N f = sg N g := by
  refine xr_congr fun q hq => ?_
  obtain ⟨h1, h2⟩ := mem_prs.mp hq
  unfold ivB
  rw [h q.1 (Nat.lt_trans h1 h2), h q.2 h2]
theorem sg_id {N : Nat} : sg N (fun i => i) = false := by
  refine xr_false fun q hq => decide_eq_false ?_
  have := (mem_prs.mp hq).1
  show ¬ q.2 < q.1
  omega
def srt (g : Nat → Nat) (q : Nat × Nat) : Nat × Nat := if g q.1 < g q.2 then (g q.1, g q.2) else (g q.2, g q.1)
theorem srt_perm {N : Nat} {g : Nat → Nat} (hg : Pm N g) : ((prs N).map (srt g)).Perm (prs N) := by
  refine nodup_perm _ _ ?_ (fun q hq => ?_) (by rw [List.length_map]; exact Nat.le_refl _)
  · refine List.pairwise_map.mpr ((nodup_prs N).imp_of_mem fun {q r} hq hr hne h => hne ?_)
    obtain ⟨q1, q2⟩ := mem_prs.mp hq
    obtain ⟨r1, r2⟩ := mem_prs.mp hr
    have i1 := hg.inj q.1 r.1 (by omega) (by omega)
    have i2 := hg.inj q.1 r.2 (by omega) (by omega)
    have i3 := hg.inj q.2 r.1 (by omega) (by omega)
    have i4 := hg.inj q.2 r.2 (by omega) (by omega)
    unfold srt at h
    have key : q.1 = r.1 ∧ q.2 = r.2 := by
      split at h <;> split at h <;> (obtain ⟨e1, e2⟩ := Prod.mk.inj h)
      · exact ⟨i1 e1, i4 e2⟩
      · have := i2 e1; have := i3 e2; omega
      · have := i3 e1; have := i2 e2; omega
      · exact ⟨i1 e2, i4 e1⟩
    exact Prod.ext key.1 key.2
  · obtain ⟨r, hr, rfl⟩ := List.mem_map.mp hq
    obtain ⟨r1, r2⟩ := mem_prs.mp hr
    have l1 := hg.lt r.1 (by omega)
    have l2 := hg.lt r.2 r2
    have i := hg.inj r.1 r.2 (by omega) r2
    refine mem_prs.mpr ?_
    unfold srt
    split
    · exact ⟨by assumption, l2⟩
    · refine ⟨?_, l1⟩
      show g r.2 < g r.1
      have : g r.1 ≠ g r.2 := fun z => by have := i z; omega
      omega
theorem sg_comp {N : Nat} {f g : Nat → Nat} (hf : Pm N f) (hg : Pm N g) : sg N (fun i => f (g i)) = (sg N g ^^ sg N f) := by
  have h1 : sg N f = xr (fun q => ivB f (srt g q)) (prs N) := by
    show xr (ivB f) (prs N) = _
    rw [← xr_perm (srt_perm hg), xr_map]
  rw [h1]
  refine xr_xor fun q hq => ?_
  obtain ⟨q1, q2⟩ := mem_prs.mp hq
  have i := hg.inj q.1 q.2 (by omega) q2
  have l1 := hg.lt q.1 (by omega)
  have l2 := hg.lt q.2 q2
  have j := hf.inj (g q.1) (g q.2) l1 l2
  have hne : g q.1 ≠ g q.2 := fun z => by have := i z; omega
  have hne2 : f (g q.1) ≠ f (g q.2) := fun z => hne (j z)
  unfold ivB srt
  by_cases h : g q.1 < g q.2
  · rw [if_pos h, decide_eq_false (show ¬ g q.2 < g q.1 by omega), Bool.false_xor]
  · rw [if_neg h, decide_eq_true (show g q.2 < g q.1 by omega), Bool.true_xor]
    dsimp only
    by_cases h2 : f (g q.2) < f (g q.1)
    · rw [decide_eq_true h2, decide_eq_false (by omega)]; rfl
    · rw [decide_eq_false h2, decide_eq_true (by omega)]; rfl
def sw (a b i : Nat) : Nat := if i = a then b else if i = b then a else i
theorem sw_pm {N a b : Nat} (ha : a < N) (hb : b < N) : Pm N (sw a b) := by
  refine ⟨fun i hi => ?_, fun i j hi hj => ?_⟩
  · unfold sw; split
    · exact hb
    · split
      · exact ha
      · exact hi
  · unfold sw
    split <;> split <;> (try split) <;> (try split) <;> omega
theorem sg_adj {N a : Nat} (h : a + 1 < N) : sg N (sw a (a + 1)) = true := by
  refine xr_one (x := (a, a + 1)) (nodup_prs N) (mem_prs.mpr ⟨by show a < a + 1; omega, h⟩) (decide_eq_true ?_) fun q hq hne => decide_eq_false ?_
  · show sw a (a + 1) (a + 1) < sw a (a + 1) a
    unfold sw
    simp
  · obtain ⟨q1, q2⟩ := mem_prs.mp hq
    have : ¬ (q.1 = a ∧ q.2 = a + 1) := fun z => hne (Prod.ext z.1 z.2)
    unfold sw
    split <;> split <;> (try split) <;> (try split) <;> omega
theorem sg_sw_lt {N a : Nat} : ∀ b, a < b → b < N → sg N (sw a b) = true
  | 0, h, _ => absurd h (Nat.not_lt_zero _)
  | b + 1, h, hb => by
    by_cases e : a = b
    · subst e; exact sg_adj hb
    · have ih := sg_sw_lt (N := N) (a := a) b (by omega) (by omega)
      have p1 : Pm N (sw b (b + 1)) := sw_pm (by omega) hb
      have p2 : Pm N (sw a b) := sw_pm (by omega) (by omega)
      have e1 : sg N (sw a (b + 1)) = sg N (fun i => sw b (b + 1) (sw a b (sw b (b + 1) i))) := by
        refine sg_congr fun i _ => ?_
        unfold sw
        split <;> split <;> (try split) <;> (try split) <;> (try split) <;> (try split) <;> omega
      rw [e1, sg_comp p1 (p2.comp p1), sg_comp p2 p1, ih]
      cases sg N (sw b (b + 1)) <;> rfl
theorem sg_sw {N a b : Nat} (ha : a < N) (hb : b < N) (h : a ≠ b) : sg N (sw a b) = true := by
  by_cases l : a < b
  · exact sg_sw_lt b l hb
  · have e : sg N (sw a b) = sg N (sw b a) := sg_congr fun i _ => by
      unfold sw
      split <;> split <;> (try split) <;> omega
    rw [e]
    exact sg_sw_lt a (by omega) ha
/-- f so many times -/
def pw (f : Nat → Nat) : Nat → Nat → Nat
  | 0, i => i
  | k + 1, i => f (pw f k i)
theorem pw_pm {N : Nat} {f : Nat → Nat} (hf : Pm N f) : ∀ k, Pm N (pw f k)
  | 0 => Pm.id
  | k + 1 => hf.comp (pw_pm hf k)
theorem sg_pw {N : Nat} {f : Nat → Nat} (hf : Pm N f) : ∀ k, sg N (pw f k) = (decide (k % 2 = 1) && sg N f)
  | 0 => sg_id
  | k + 1 => by
    have e : sg N (pw f (k + 1)) = sg N (fun i => f (pw f k i)) := rfl
    rw [e, sg_comp hf (pw_pm hf k), sg_pw hf k]
    by_cases h : k % 2 = 1
    · rw [decide_eq_true h, decide_eq_false (by omega)]
      cases sg N f <;> rfl
    · rw [decide_eq_false h, decide_eq_true (by omega)]
      cases sg N f <;> rfl
/-- what is nothing done behind an odd number of times is even -/
theorem sg_odd {N : Nat} {f : Nat → Nat} (hf : Pm N f) {k : Nat} (hk : k % 2 = 1) (h : ∀ i, i < N → pw f k i = i) : sg N f = false := by
  have h1 := sg_pw hf k
  rw [sg_congr h, sg_id, decide_eq_true hk, Bool.true_and] at h1
  exact h1.symm
theorem sg_inv {N : Nat} {f g : Nat → Nat} (hf : Pm N f) (hg : Pm N g) (h : ∀ i, i < N → f (g i) = i) : sg N g = sg N f := by
  have h1 := sg_comp hf hg
  rw [sg_congr h, sg_id] at h1
  revert h1
  cases sg N f <;> cases sg N g <;> simp
end Pa
end

section
set_option Elab.async false
set_option linter.all false
set_option maxRecDepth 100000
set_option maxHeartbeats 4000000
/-! Rounds walked one by one: what is seen, even or odd. -/
namespace Pa
def rst (f : Nat → Nat) (S : Nat → Bool) (i : Nat) : Nat := if S i = true then f i else i
def clo (f : Nat → Nat) (S : Nat → Bool) (s l i : Nat) : Nat := if S i = true then (if i = l then s else f i) else i
def add (S : Nat → Bool) (h i : Nat) : Bool := S i || decide (i = h)
theorem add_self {S : Nat → Bool} {h : Nat} : add S h h = true := by unfold add; simp
theorem add_of {S : Nat → Bool} {h i : Nat} (e : S i = true) : add S h i = true := by unfold add; rw [e]; rfl
theorem add_inv {S : Nat → Bool} {h i : Nat} (e : add S h i = true) : S i = true ∨ i = h := by
  unfold add at e
  rw [Bool.or_eq_true, decide_eq_true_eq] at e
  exact e
theorem add_no {S : Nat → Bool} {h i : Nat} (e : add S h i ≠ true) : S i ≠ true ∧ i ≠ h := by
  unfold add at e
  rw [ne_eq, Bool.or_eq_true, decide_eq_true_eq, not_or] at e
  exact e
structure Seen (N : Nat) (f : Nat → Nat) (S : Nat → Bool) (par : Bool) : Prop where
  cl : ∀ i, i < N → S i = true → S (f i) = true
  pre : ∀ j, j < N → S j = true → ∃ i, i < N ∧ S i = true ∧ f i = j
  pa : sg N (rst f S) = par
structure Walk (N : Nat) (f : Nat → Nat) (S : Nat → Bool) (s l : Nat) (par : Bool) : Prop where
  hs : s < N
  hl : l < N
  ss : S s = true
  sl : S l = true
  cl : ∀ i, i < N → S i = true → i ≠ l → S (f i) = true
  pre : ∀ j, j < N → S j = true → j ≠ s → ∃ i, i < N ∧ S i = true ∧ i ≠ l ∧ f i = j
  pm : Pm N (clo f S s l)
  pa : sg N (clo f S s l) = par
variable {N : Nat} {f : Nat → Nat} {S : Nat → Bool} {s l : Nat} {par : Bool}
theorem Seen.none (h : ∀ i, i < N → S i = false) : Seen N f S false := by
  refine ⟨fun i hi e => (by rw [h i hi] at e; cases e), fun j hj e => (by rw [h j hj] at e; cases e), ?_⟩
  have : sg N (rst f S) = sg N (fun i => i) := sg_congr fun i hi => by unfold rst; rw [h i hi]; rfl
  rw [this, sg_id]
theorem Seen.pm (hf : Pm N f) (k : Seen N f S par) : Pm N (rst f S) := by
  refine ⟨fun i hi => ?_, fun i j hi hj e => ?_⟩
  · unfold rst; split
    · exact hf.lt i hi
    · exact hi
  · unfold rst at e
    split at e <;> split at e
    · exact hf.inj i j hi hj e
    · rename_i h1 h2
      exact absurd (k.cl i hi h1) (by rw [e]; exact h2)
    · rename_i h1 h2
      exact absurd (k.cl j hj h2) (by rw [← e]; exact h1)
    · exact e
theorem Seen.start (hf : Pm N f) (k : Seen N f S par) (hs : s < N) (h : S s = false) : Walk N f (add S s) s s par := by
  have e : ∀ i, i < N → clo f (add S s) s s i = rst f S i := fun i hi => by
    unfold clo rst
    by_cases his : i = s
    · subst his
      rw [if_pos add_self, if_pos rfl, h]; rfl
    · by_cases hS : S i = true
      · rw [if_pos (add_of hS), if_neg his, if_pos hS]
      · rw [if_neg (fun z => (add_inv z).elim hS his), if_neg hS]
  refine ⟨hs, hs, add_self, add_self, fun i hi h1 h2 => ?_, fun j hj h1 h2 => ?_, (k.pm hf).congr e, ?_⟩
  · rcases add_inv h1 with h1 | h1
    · exact add_of (k.cl i hi h1)
    · exact absurd h1 h2
  · rcases add_inv h1 with h1 | h1
    · obtain ⟨i, hi, g1, g2⟩ := k.pre j hj h1
      exact ⟨i, hi, add_of g1, fun z => (by rw [z, h] at g1; cases g1), g2⟩
    · exact absurd h1 h2
  · rw [sg_congr e]; exact k.pa
theorem Walk.step (hf : Pm N f) (k : Walk N f S s l par) (h : S (f l) = false) : Walk N f (add S (f l)) s (f l) (!par) := by
  have hfl := hf.lt l k.hl
  have hne : s ≠ f l := fun z => by have := k.ss; rw [z, h] at this; cases this
  have hll : l ≠ f l := fun z => by have := k.sl; rw [z, h] at this; cases this
  have e : ∀ i, i < N → clo f (add S (f l)) s (f l) i = sw s (f l) (clo f S s l i) := fun i hi => by
    have hcl : ∀ i, i < N → S i = true → i ≠ l → f i ≠ f l := fun i hi _ h2 z => h2 (hf.inj i l hi k.hl z)
    unfold clo sw
    by_cases hS : S i = true
    · have hi2 : i ≠ f l := fun z => (by rw [z, h] at hS; cases hS)
      rw [if_pos (add_of hS), if_neg hi2, if_pos hS]
      by_cases hil : i = l
      · rw [if_pos hil, if_pos rfl, hil]
      · rw [if_neg hil]
        have a1 := hcl i hi hS hil
        have a2 : f i ≠ s := fun z => by
          have g1 : clo f S s l i = s := by unfold clo; rw [if_pos hS, if_neg hil]; exact z
          have g2 : clo f S s l l = s := by unfold clo; rw [if_pos k.sl, if_pos rfl]
          exact hil (k.pm.inj i l hi k.hl (g1.trans g2.symm))
        rw [if_neg a2, if_neg a1]
    · rw [if_neg hS]
      by_cases hil : i = f l
      · subst hil
        rw [if_pos add_self, if_pos rfl, if_neg (fun z => hne z.symm), if_pos rfl]
      · rw [if_neg (fun z => (add_inv z).elim hS hil)]
        have a2 : i ≠ s := fun z => hS (by rw [z]; exact k.ss)
        rw [if_neg a2, if_neg hil]
  have psw : Pm N (sw s (f l)) := sw_pm k.hs hfl
  refine ⟨k.hs, hfl, add_of k.ss, add_self, fun i hi h1 h2 => ?_, fun j hj h1 h2 => ?_, (psw.comp k.pm).congr e, ?_⟩
  · rcases add_inv h1 with h1 | h1
    · by_cases hil : i = l
      · subst hil; exact add_self
      · exact add_of (k.cl i hi h1 hil)
    · exact absurd h1 h2
  · rcases add_inv h1 with h1 | h1
    · obtain ⟨i, hi, g1, g2, g3⟩ := k.pre j hj h1 h2
      exact ⟨i, hi, add_of g1, fun z => (by rw [z, h] at g1; cases g1), g3⟩
    · exact ⟨l, k.hl, add_of k.sl, hll, h1.symm⟩
  · rw [sg_congr e, sg_comp psw k.pm, k.pa, sg_sw k.hs hfl hne]
    cases par <;> rfl
theorem Walk.back (hf : Pm N f) (k : Walk N f S s l par) (h : S (f l) = true) : f l = s := by
  by_cases z : f l = s
  · exact z
  · obtain ⟨i, hi, g1, g2, g3⟩ := k.pre (f l) (hf.lt l k.hl) h z
    exact absurd (hf.inj i l hi k.hl g3) g2
theorem Walk.done (hf : Pm N f) (k : Walk N f S s l par) (h : S (f l) = true) : Seen N f S par := by
  have hb := k.back hf h
  refine ⟨fun i hi h1 => ?_, fun j hj h1 => ?_, ?_⟩
  · by_cases hil : i = l
    · rw [hil]; exact h
    · exact k.cl i hi h1 hil
  · by_cases hjs : j = s
    · exact ⟨l, k.hl, k.sl, by rw [hb, hjs]⟩
    · obtain ⟨i, hi, g1, _, g3⟩ := k.pre j hj h1 hjs
      exact ⟨i, hi, g1, g3⟩
  · rw [← k.pa]
    refine sg_congr fun i hi => ?_
    unfold rst clo
    by_cases hil : i = l
    · subst hil; rw [if_pos k.sl, if_pos k.sl, if_pos rfl, hb]
    · rw [if_neg hil]
theorem Seen.all (k : Seen N f S par) (h : ∀ i, i < N → S i = true) : sg N f = par := by
  rw [← k.pa]
  refine sg_congr fun i hi => ?_
  unfold rst
  rw [if_pos (h i hi)]
/-! ### what is seen as a list -/
def sn (bs : List Bool) (i : Nat) : Bool := bs.getD i false
theorem sn_set {bs : List Bool} {h : Nat} (hh : h < bs.length) : sn (bs.set h true) = add (sn bs) h := by
  funext i
  show (bs.set h true).getD i false = (bs.getD i false || decide (i = h))
  rw [List.getD_eq_getElem?_getD, List.getD_eq_getElem?_getD]
  by_cases e : h = i
  · subst e
    rw [List.getElem?_set_self hh]
    simp
  · rw [List.getElem?_set_ne e, decide_eq_false (fun z => e z.symm), Bool.or_false]
theorem cnt_set : ∀ {bs : List Bool} {h : Nat}, bs[h]? = some false → (bs.set h true).count true = bs.count true + 1
  | [], _, e => by simp at e
  | b :: bs, 0, e => by
    simp at e
    subst e
    simp [List.count_cons]
  | b :: bs, h + 1, e => by
    simp only [List.getElem?_cons_succ] at e
    rw [List.set_cons_succ, List.count_cons, List.count_cons, cnt_set e]
    omega
theorem cnt_le (bs : List Bool) : bs.count true ≤ bs.length := List.count_le_length
theorem cnt_all : ∀ {bs : List Bool}, (∀ i, i < bs.length → sn bs i = true) → bs.count true = bs.length
  | [], _ => rfl
  | b :: bs, h => by
    have h0 := h 0 (by simp)
    have : b = true := h0
    subst this
    rw [List.count_cons_self, List.length_cons, cnt_all fun i hi => h (i + 1) (by rw [List.length_cons]; omega)]
theorem sn_get {bs : List Bool} {i : Nat} (h : i < bs.length) : bs[i]? = some (sn bs i) := by
  unfold sn
  rw [List.getD_eq_getElem?_getD, List.getElem?_eq_getElem h]
  rfl
theorem nodup_le {α : Type} [DecidableEq α] : ∀ (l l' : List α), l.Nodup → (∀ x ∈ l, x ∈ l') → l.length ≤ l'.length
  | [], l', _, _ => Nat.zero_le _
  | a :: l, l', hn, hs => by
    rw [List.nodup_cons] at hn
    have ha := hs a List.mem_cons_self
    have h1 := nodup_le l (l'.erase a) hn.2 fun x hx => by
      have hax : x ≠ a := fun z => hn.1 (by rw [← z]; exact hx)
      exact (List.mem_erase_of_ne hax).mpr (hs x (List.mem_cons_of_mem _ hx))
    rw [List.length_erase_of_mem ha] at h1
    have : 0 < l'.length := List.length_pos_of_mem ha
    rw [List.length_cons]
    omega
/-- a round: nothing twice, each led to the next one, the last one to the first -/
structure Rw (N : Nat) (f : Nat → Nat) (r : List Nat) : Prop where
  nd : r.Nodup
  ch : ∀ k a b, r[k]? = some a → r[k + 1]? = some b → f a = b
  la : ∀ a b, r[0]? = some a → r.getLast? = some b → f b = a
  ne : r ≠ []
def od : List (List Nat) → Bool
  | [] => false
  | r :: rs => decide (r.length % 2 = 0) ^^ od rs
theorem od_app : ∀ (rs : List (List Nat)) (r : List Nat), od (rs ++ [r]) = (od rs ^^ decide (r.length % 2 = 0))
  | [], r => by simp [od]
  | q :: rs, r => by
    rw [List.cons_append]
    unfold od
    rw [od_app rs r, Bool.xor_assoc]
theorem od_eq : ∀ (rs : List (List Nat)), od rs = decide ((rs.flatten.length + rs.length) % 2 = 1)
  | [] => rfl
  | r :: rs => by
    unfold od
    rw [od_eq rs, List.flatten_cons, List.length_append, List.length_cons]
    by_cases h1 : r.length % 2 = 0 <;> by_cases h2 : (rs.flatten.length + rs.length) % 2 = 1
    · rw [decide_eq_true h1, decide_eq_true h2, decide_eq_false (by omega)]; rfl
    · rw [decide_eq_true h1, decide_eq_false h2, decide_eq_true (by omega)]; rfl
    · rw [decide_eq_false h1, decide_eq_true h2, decide_eq_true (by omega)]; rfl
    · rw [decide_eq_false h1, decide_eq_false h2, decide_eq_false (by omega)]; rfl
structure Out (N : Nat) (f : Nat → Nat) (bs : List Bool) (rows : List (List Nat)) : Prop where
  len : bs.length = N
  seen : Seen N f (sn bs) (od rows)
  rw' : ∀ r ∈ rows, Rw N f r
  nd : rows.flatten.Nodup
  lt : ∀ x ∈ rows.flatten, x < N
  mem : ∀ x, x < N → (sn bs x = true ↔ x ∈ rows.flatten)
structure Inn (N : Nat) (f : Nat → Nat) (rows : List (List Nat)) (bs : List Bool) (s l : Nat) (row : List Nat) : Prop where
  len : bs.length = N
  walk : Walk N f (sn bs) s l (od rows ^^ decide (row.length % 2 = 0))
  rw' : ∀ r ∈ rows, Rw N f r
  nd : rows.flatten.Nodup
  lt : ∀ x ∈ rows.flatten, x < N
  mem : ∀ x, x < N → (sn bs x = true ↔ x ∈ rows.flatten ∨ x ∈ row)
  rnd : row.Nodup
  rlt : ∀ x ∈ row, x < N
  rnew : ∀ x ∈ row, x ∉ rows.flatten
  ch : ∀ k a b, row[k]? = some a → row[k + 1]? = some b → f a = b
  hd : row[0]? = some s
  la : row.getLast? = some l
variable {rows : List (List Nat)} {bs : List Bool} {row : List Nat}
theorem sn_rep (N i : Nat) : sn (List.replicate N false) i = false := by
  unfold sn
  rw [List.getD_eq_getElem?_getD, List.getElem?_replicate]
  split <;> rfl
theorem Out.none : Out N f (List.replicate N false) [] := by
  refine ⟨List.length_replicate, Seen.none fun i hi => ?_, (fun r h => nomatch h), List.Pairwise.nil, (fun x h => nomatch h), fun x hx => ?_⟩
  · exact sn_rep N i
  · rw [sn_rep]; simp
theorem Out.start (hf : Pm N f) (k : Out N f bs rows) (hs : s < N) (h : sn bs s = false) : Inn N f rows (bs.set s true) s s [s] := by
  have e : sn (bs.set s true) = add (sn bs) s := sn_set (by rw [k.len]; exact hs)
  have w := k.seen.start hf hs h
  refine ⟨by rw [List.length_set]; exact k.len, ?_, k.rw', k.nd, k.lt, fun x hx => ?_, by simp, fun x hx => ?_, fun x hx => ?_, fun i a b h1 h2 => ?_, rfl, rfl⟩
  · rw [e]
    have : (od rows ^^ decide (([s] : List Nat).length % 2 = 0)) = od rows := by simp
    rw [this]; exact w
  · rw [e]
    constructor
    · intro z
      rcases add_inv z with z | z
      · exact .inl ((k.mem x hx).mp z)
      · exact .inr (by rw [z]; exact List.mem_cons_self)
    · rintro (z | z)
      · exact add_of ((k.mem x hx).mpr z)
      · rw [List.mem_singleton] at z
        rw [z]; exact add_self
  · rw [List.mem_singleton] at hx; rw [hx]; exact hs
  · rw [List.mem_singleton] at hx
    subst hx
    intro z
    have := (k.mem x hs).mpr z
    rw [h] at this
    cases this
  · simp at h2
theorem Inn.l_lt (k : Inn N f rows bs s l row) : l < N := k.walk.hl
theorem Inn.step (hf : Pm N f) (k : Inn N f rows bs s l row) (h : sn bs (f l) = false) : Inn N f rows (bs.set (f l) true) s (f l) (row ++ [f l]) := by
  have hfl := hf.lt l k.l_lt
  have e : sn (bs.set (f l) true) = add (sn bs) (f l) := sn_set (by rw [k.len]; exact hfl)
  have w := k.walk.step hf h
  have hno : f l ∉ rows.flatten ∧ f l ∉ row := by
    have h0 : ¬ sn bs (f l) = true := by rw [h]; exact fun z => nomatch z
    exact ⟨fun z => h0 ((k.mem (f l) hfl).mpr (.inl z)), fun z => h0 ((k.mem (f l) hfl).mpr (.inr z))⟩
  have hlen : 0 < row.length := by
    rcases row with _ | ⟨a, r⟩
    · cases k.hd
    · simp
  refine ⟨by rw [List.length_set]; exact k.len, ?_, k.rw', k.nd, k.lt, fun x hx => ?_, ?_, fun x hx => ?_, fun x hx => ?_, fun i a b h1 h2 => ?_, ?_, by simp⟩
  · rw [e]
    have : (od rows ^^ decide ((row ++ [f l]).length % 2 = 0)) = !(od rows ^^ decide (row.length % 2 = 0)) := by
      rw [List.length_append, List.length_singleton]
      by_cases z : row.length % 2 = 0
      · rw [decide_eq_true z, decide_eq_false (by omega)]; cases od rows <;> rfl
      · rw [decide_eq_false z, decide_eq_true (by omega)]; cases od rows <;> rfl
    rw [this]; exact w
  · rw [e, List.mem_append, List.mem_singleton]
    constructor
    · intro z
      rcases add_inv z with z | z
      · rcases (k.mem x hx).mp z with z | z
        · exact .inl z
        · exact .inr (.inl z)
      · exact .inr (.inr z)
    · rintro (z | z | z)
      · exact add_of ((k.mem x hx).mpr (.inl z))
      · exact add_of ((k.mem x hx).mpr (.inr z))
      · rw [z]; exact add_self
  · rw [List.nodup_append]
    refine ⟨k.rnd, by simp, fun a ha b hb z => ?_⟩
    rw [List.mem_singleton] at hb
    exact hno.2 (by rw [← hb, ← z]; exact ha)
  · rcases List.mem_append.mp hx with hx | hx
    · exact k.rlt x hx
    · rw [List.mem_singleton] at hx; rw [hx]; exact hfl
  · rcases List.mem_append.mp hx with hx | hx
    · exact k.rnew x hx
    · rw [List.mem_singleton] at hx; rw [hx]; exact hno.1
  · by_cases hi : i + 1 < row.length
    · rw [List.getElem?_append_left hi] at h2
      rw [List.getElem?_append_left (by omega)] at h1
      exact k.ch i a b h1 h2
    · have hi2 : i + 1 < (row ++ [f l]).length := (List.getElem?_eq_some_iff.mp h2).1
      rw [List.length_append, List.length_singleton] at hi2
      have hi3 : i + 1 = row.length := by omega
      rw [hi3, List.getElem?_append_right (Nat.le_refl _)] at h2
      simp at h2
      rw [List.getElem?_append_left (by omega)] at h1
      have h3 := k.la
      rw [List.getLast?_eq_getElem?, show row.length - 1 = i by omega, h1] at h3
      cases h3
      exact h2
  · rw [List.getElem?_append_left hlen]; exact k.hd
theorem Inn.done (hf : Pm N f) (k : Inn N f rows bs s l row) (h : sn bs (f l) = true) : Out N f bs (rows ++ [row]) := by
  have hb := k.walk.back hf h
  refine ⟨k.len, ?_, fun r hr => ?_, ?_, fun x hx => ?_, fun x hx => ?_⟩
  · rw [od_app]; exact k.walk.done hf h
  · rcases List.mem_append.mp hr with hr | hr
    · exact k.rw' r hr
    · rw [List.mem_singleton] at hr
      subst hr
      refine ⟨k.rnd, k.ch, fun a b h1 h2 => ?_, fun z => ?_⟩
      · rw [k.hd] at h1
        rw [k.la] at h2
        cases h1
        cases h2
        exact hb
      · have := k.hd
        rw [z] at this
        cases this
  · rw [List.flatten_append, List.nodup_append]
    refine ⟨k.nd, by simpa using k.rnd, fun a ha b hb z => ?_⟩
    have hb' : b ∈ row := by simpa using hb
    exact k.rnew b hb' (by rw [← z]; exact ha)
  · rw [List.flatten_append, List.mem_append] at hx
    rcases hx with hx | hx
    · exact k.lt x hx
    · exact k.rlt x (by simpa using hx)
  · rw [List.flatten_append, List.mem_append, k.mem x hx]
    simp
theorem Inn.row_le (k : Inn N f rows bs s l row) : row.length ≤ N := by
  have := nodup_le row (List.range N) k.rnd fun x hx => List.mem_range.mpr (k.rlt x hx)
  rw [List.length_range] at this
  exact this
/-- all is seen -/
structure Cyc (N : Nat) (f : Nat → Nat) (rows : List (List Nat)) : Prop where
  rw' : ∀ r ∈ rows, Rw N f r
  nd : rows.flatten.Nodup
  lt : ∀ x ∈ rows.flatten, x < N
  mem : ∀ x, x < N → x ∈ rows.flatten
  len : rows.flatten.length = N
  pa : sg N f = decide ((N + rows.length) % 2 = 1)
  le : rows.length ≤ N
theorem flat_le : ∀ {rows : List (List Nat)}, (∀ r ∈ rows, r ≠ []) → rows.length ≤ rows.flatten.length
  | [], _ => Nat.le_refl _
  | r :: rows, h => by
    have h1 := flat_le fun r' hr' => h r' (List.mem_cons_of_mem _ hr')
    have h2 : 0 < r.length := List.length_pos_iff.mpr (h r List.mem_cons_self)
    rw [List.flatten_cons, List.length_append, List.length_cons]
    omega
theorem Out.all (k : Out N f bs rows) (h : ∀ i, i < N → sn bs i = true) : Cyc N f rows := by
  have hm : ∀ x, x < N → x ∈ rows.flatten := fun x hx => (k.mem x hx).mp (h x hx)
  have l1 := nodup_le rows.flatten (List.range N) k.nd fun x hx => List.mem_range.mpr (k.lt x hx)
  have l2 := nodup_le (List.range N) rows.flatten List.nodup_range fun x hx => hm x (List.mem_range.mp hx)
  rw [List.length_range] at l1 l2
  have hl : rows.flatten.length = N := by omega
  refine ⟨k.rw', k.nd, k.lt, hm, hl, ?_, ?_⟩
  · rw [k.seen.all h, od_eq, hl]
  · rw [← hl]
    exact flat_le fun r hr => (k.rw' r hr).ne
end Pa
end

section
set_option Elab.async false
set_option linter.all false
set_option maxRecDepth 100000
set_option maxHeartbeats 4000000
/-! k47: rounds: so often done, home again, led by another deal. -/
namespace Pa
variable {N : Nat} {f g h : Nat → Nat} {r : List Nat} {rows : List (List Nat)}
theorem pw_add (f : Nat → Nat) : ∀ a b i, pw f (a + b) i = pw f a (pw f b i)
  | 0, b, i => by rw [Nat.zero_add]; rfl
  | a + 1, b, i => by
    rw [Nat.succ_add]
    show f (pw f (a + b) i) = f (pw f a (pw f b i))
    rw [pw_add f a b i]
theorem pw_congr {f g : Nat → Nat} (hf : Pm N f) (h : ∀ i, i < N → f i = g i) : ∀ k i, i < N → pw f k i = pw g k i
  | 0, i, _ => rfl
  | k + 1, i, hi => by
    show f (pw f k i) = g (pw g k i)
    rw [← pw_congr hf h k i hi]
    exact h _ ((pw_pm hf k).lt i hi)
theorem Rw.pos (w : Rw N f r) : 0 < r.length := List.length_pos_iff.mpr w.ne
theorem Rw.step (w : Rw N f r) {j : Nat} (hj : j < r.length) : f r[j] = r[(j + 1) % r.length]'(Nat.mod_lt _ w.pos) := by
  have hp := w.pos
  by_cases e : j + 1 < r.length
  · have h1 := w.ch j r[j] r[j + 1] (List.getElem?_eq_getElem hj) (List.getElem?_eq_getElem e)
    rw [h1]
    congr 1
    rw [Nat.mod_eq_of_lt e]
  · have ej : j = r.length - 1 := by omega
    have h1 := w.la r[0] r[r.length - 1] (List.getElem?_eq_getElem hp) (by rw [List.getLast?_eq_getElem?]; exact List.getElem?_eq_getElem (by omega))
    subst ej
    rw [h1]
    congr 1
    rw [show r.length - 1 + 1 = r.length by omega, Nat.mod_self]
theorem Rw.pw (w : Rw N f r) : ∀ (k : Nat) {j : Nat} (hj : j < r.length), Pa.pw f k r[j] = r[(j + k) % r.length]'(Nat.mod_lt _ w.pos)
  | 0, j, hj => by
    show r[j] = _
    congr 1
    rw [Nat.add_zero, Nat.mod_eq_of_lt hj]
  | k + 1, j, hj => by
    show f (Pa.pw f k r[j]) = _
    rw [Rw.pw w k hj, w.step (Nat.mod_lt _ w.pos)]
    congr 1
    rw [Nat.mod_add_mod, Nat.add_assoc]
theorem get_inj {l : List Nat} (hn : l.Nodup) {i j : Nat} (hi : i < l.length) (hj : j < l.length) (e : l[i] = l[j]) : i = j := (List.getElem_inj hn).mp e
theorem Rw.fix (w : Rw N f r) {k : Nat} {x : Nat} (hx : x ∈ r) : Pa.pw f k x = x ↔ r.length ∣ k := by
  obtain ⟨j, hj, rfl⟩ := List.mem_iff_getElem.mp hx
  rw [w.pw k hj]
  have hp := w.pos
  constructor
  · intro e
    have h1 := get_inj w.nd _ _ e
    refine Nat.dvd_of_mod_eq_zero ?_
    have h2 : (j + k) % r.length = (j + 0) % r.length := by rw [h1, Nat.add_zero, Nat.mod_eq_of_lt hj]
    have := Nat.add_mod j k r.length
    rw [Nat.mod_eq_of_lt hj] at this
    have hk := Nat.mod_lt k hp
    by_cases z : j + k % r.length < r.length
    · rw [Nat.mod_eq_of_lt z] at this; omega
    · have : (j + k % r.length) % r.length = j + k % r.length - r.length := by
        rw [Nat.mod_eq_sub_mod (by omega), Nat.mod_eq_of_lt (by omega)]
      omega
  · rintro ⟨c, rfl⟩
    congr 1
    rw [Nat.add_mul_mod_self_left, Nat.mod_eq_of_lt hj]
/-! ### the least time that all are home again -/
def ordF (m : Nat) (ls : List Nat) : Nat := ls.foldl Nat.lcm m
theorem ordF_dvd : ∀ (ls : List Nat) (m k : Nat), ordF m ls ∣ k ↔ m ∣ k ∧ ∀ l ∈ ls, l ∣ k
  | [], m, k => by
    show m ∣ k ↔ _
    exact ⟨fun h => ⟨h, fun _ z => nomatch z⟩, fun h => h.1⟩
  | a :: ls, m, k => by
    show ordF (Nat.lcm m a) ls ∣ k ↔ _
    rw [ordF_dvd ls]
    constructor
    · intro ⟨h1, h2⟩
      refine ⟨Nat.dvd_trans (Nat.dvd_lcm_left m a) h1, fun l hl => ?_⟩
      rcases List.mem_cons.mp hl with rfl | hl
      · exact Nat.dvd_trans (Nat.dvd_lcm_right m l) h1
      · exact h2 l hl
    · intro ⟨h1, h2⟩
      exact ⟨Nat.lcm_dvd h1 (h2 a List.mem_cons_self), fun l hl => h2 l (List.mem_cons_of_mem _ hl)⟩
theorem ordF_pos : ∀ (ls : List Nat) (m : Nat), 0 < m → (∀ l ∈ ls, 0 < l) → 0 < ordF m ls
  | [], m, h, _ => h
  | a :: ls, m, h, hl => ordF_pos ls _ (Nat.lcm_pos h (hl a List.mem_cons_self)) fun l hl' => hl l (List.mem_cons_of_mem _ hl')
theorem lcm_le {a b : Nat} (ha : 0 < a) (hb : 0 < b) : Nat.lcm a b ≤ a * b := Nat.le_of_dvd (Nat.mul_pos ha hb) (Nat.lcm_dvd (Nat.dvd_mul_right a b) (Nat.dvd_mul_left b a))
theorem ordF_le : ∀ (ls : List Nat) (m c : Nat), 0 < m → (∀ l ∈ ls, 0 < l ∧ l ≤ c) → ordF m ls ≤ m * c ^ ls.length
  | [], m, c, _, _ => by show m ≤ m * 1; omega
  | a :: ls, m, c, hm, h => by
    obtain ⟨h1, h2⟩ := h a List.mem_cons_self
    have ih := ordF_le ls (Nat.lcm m a) c (Nat.lcm_pos hm h1) fun l hl => h l (List.mem_cons_of_mem _ hl)
    have h3 : Nat.lcm m a ≤ m * c := Nat.le_trans (lcm_le hm h1) (Nat.mul_le_mul_left m h2)
    show ordF (Nat.lcm m a) ls ≤ _
    refine Nat.le_trans ih ?_
    rw [List.length_cons, Nat.pow_succ', ← Nat.mul_assoc]
    exact Nat.mul_le_mul_right _ h3
def lens (rows : List (List Nat)) : List Nat := rows.map List.length
def ord (rows : List (List Nat)) : Nat := ordF 1 (lens rows)
theorem Cyc.mem_row (c : Cyc N f rows) {x : Nat} (hx : x < N) : ∃ r ∈ rows, x ∈ r := by
  obtain ⟨r, hr, h⟩ := List.mem_flatten.mp (c.mem x hx)
  exact ⟨r, hr, h⟩
theorem Cyc.row_lt (c : Cyc N f rows) {r : List Nat} (hr : r ∈ rows) {x : Nat} (hx : x ∈ r) : x < N := c.lt x (List.mem_flatten.mpr ⟨r, hr, hx⟩)
theorem Cyc.len_pos (c : Cyc N f rows) : ∀ l ∈ lens rows, 0 < l := by
  intro l hl
  obtain ⟨r, hr, rfl⟩ := List.mem_map.mp hl
  exact (c.rw' r hr).pos
theorem flat_row : ∀ {rows : List (List Nat)} {r : List Nat}, r ∈ rows → r.length ≤ rows.flatten.length
  | [], _, h => nomatch h
  | a :: rows, r, h => by
    rw [List.flatten_cons, List.length_append]
    rcases List.mem_cons.mp h with rfl | h
    · omega
    · have := flat_row h
      omega
theorem Cyc.len_le (c : Cyc N f rows) : ∀ l ∈ lens rows, l ≤ N := by
  intro l hl
  obtain ⟨r, hr, rfl⟩ := List.mem_map.mp hl
  rw [← c.len]
  exact flat_row hr
theorem Cyc.ord_pos (c : Cyc N f rows) : 0 < ord rows := ordF_pos _ _ (by decide) c.len_pos
theorem Cyc.home (c : Cyc N f rows) (k : Nat) : (∀ i, i < N → pw f k i = i) ↔ ord rows ∣ k := by
  unfold ord
  rw [ordF_dvd]
  constructor
  · intro h
    refine ⟨Nat.one_dvd k, fun l hl => ?_⟩
    obtain ⟨r, hr, rfl⟩ := List.mem_map.mp hl
    have w := c.rw' r hr
    have hx : r[0]'w.pos ∈ r := List.getElem_mem _
    exact (w.fix hx).mp (h _ (c.row_lt hr hx))
  · intro ⟨_, h⟩ i hi
    obtain ⟨r, hr, hx⟩ := c.mem_row hi
    exact ((c.rw' r hr).fix hx).mpr (h _ (List.mem_map.mpr ⟨r, hr, rfl⟩))
/-! ### rounds led by another deal -/
def lst (rows : List (List Nat)) : List (Nat × Nat) := rows.flatMap fun r => r.map fun x => (x, r.length)
theorem mem_lst {rows : List (List Nat)} {q : Nat × Nat} : q ∈ lst rows ↔ ∃ r ∈ rows, q.1 ∈ r ∧ q.2 = r.length := by
  unfold lst
  rw [List.mem_flatMap]
  constructor
  · rintro ⟨r, hr, h⟩
    obtain ⟨x, hx, rfl⟩ := List.mem_map.mp h
    exact ⟨r, hr, hx, rfl⟩
  · rintro ⟨r, hr, h1, h2⟩
    refine ⟨r, hr, List.mem_map.mpr ⟨q.1, h1, ?_⟩⟩
    rw [← h2]
theorem lst_fst : ∀ rows : List (List Nat), (lst rows).map (·.1) = rows.flatten
  | [] => rfl
  | r :: rows => by
    have e : lst (r :: rows) = r.map (fun x => (x, r.length)) ++ lst rows := rfl
    rw [e, List.map_append, lst_fst rows, List.map_map, List.flatten_cons]
    congr 1
    exact List.map_id r
theorem lst_len (rows : List (List Nat)) : (lst rows).length = rows.flatten.length := by
  rw [← lst_fst rows, List.length_map]
theorem lst_count (L : Nat) : ∀ rows : List (List Nat), ((lst rows).map (·.2)).count L = L * (lens rows).count L
  | [] => by simp [lst, lens]
  | r :: rows => by
    have e : lst (r :: rows) = r.map (fun x => (x, r.length)) ++ lst rows := rfl
    have e2 : lens (r :: rows) = r.length :: lens rows := rfl
    have e3 : (r.map fun x => (x, r.length)).map (·.2) = List.replicate r.length r.length := by
      rw [List.map_map, ← List.map_const]
      rfl
    rw [e, List.map_append, List.count_append, lst_count L rows, e2, List.count_cons, e3, List.count_replicate]
    by_cases z : r.length = L
    · have z2 : (r.length == L) = true := by simpa using z
      rw [z2, if_pos rfl, if_pos rfl, Nat.mul_succ, z]
      omega
    · have z2 : (r.length == L) = false := by simpa using z
      rw [z2, if_neg (by decide), if_neg (by decide), Nat.zero_add]
      rfl
theorem pw_led {h : Nat → Nat} (hf : Pm N f) (e : ∀ i, i < N → h (f i) = g (h i)) : ∀ k i, i < N → h (pw f k i) = pw g k (h i)
  | 0, i, _ => rfl
  | k + 1, i, hi => by
    show h (f (pw f k i)) = g (pw g k (h i))
    rw [e _ ((pw_pm hf k).lt i hi), pw_led hf e k i hi]
theorem lens_perm {rf rg : List (List Nat)} (cf : Cyc N f rf) (cg : Cyc N g rg) (hf : Pm N f) (hh : Pm N h) (e : ∀ i, i < N → h (f i) = g (h i)) : (lens rf).Perm (lens rg) := by
  have key : ((lst rf).map fun q => (h q.1, q.2)).Perm (lst rg) := by
    refine nodup_perm _ _ ?_ (fun q hq => ?_) ?_
    · have h1 : (((lst rf).map fun q => (h q.1, q.2)).map (·.1)).Nodup := by
        rw [List.map_map]
        have e1 : (lst rf).map ((fun q : Nat × Nat => q.1) ∘ fun q => (h q.1, q.2)) = ((lst rf).map (·.1)).map h := by rw [List.map_map]; rfl
        rw [e1, lst_fst]
        refine List.pairwise_map.mpr (cf.nd.imp_of_mem fun {a b} ha hb hne z => hne (hh.inj a b (cf.lt a ha) (cf.lt b hb) z))
      exact (List.pairwise_map.mp h1).imp fun {a b} hne z => hne (by rw [z])
    · obtain ⟨⟨x, L⟩, hx, rfl⟩ := List.mem_map.mp hq
      obtain ⟨r, hr, h1, h2⟩ := mem_lst.mp hx
      dsimp only at h1 h2 ⊢
      have hxN := cf.row_lt hr h1
      obtain ⟨s, hs, h3⟩ := cg.mem_row (hh.lt x hxN)
      refine mem_lst.mpr ⟨s, hs, h3, ?_⟩
      dsimp only
      rw [h2]
      have wr := cf.rw' r hr
      have ws := cg.rw' s hs
      have hk : ∀ k, r.length ∣ k ↔ s.length ∣ k := fun k => by
        rw [← wr.fix h1, ← ws.fix h3, ← pw_led hf e k x hxN]
        exact ⟨fun z => by rw [z], fun z => hh.inj _ _ ((pw_pm hf k).lt x hxN) hxN z⟩
      exact Nat.dvd_antisymm ((hk _).mpr (Nat.dvd_refl _)) ((hk _).mp (Nat.dvd_refl _))
    · rw [List.length_map, lst_len, lst_len, cf.len, cg.len]
      exact Nat.le_refl _
  have hc : ∀ L, L * (lens rf).count L = L * (lens rg).count L := fun L => by
    rw [← lst_count, ← lst_count]
    have e1 : (lst rf).map (·.2) = ((lst rf).map fun q => (h q.1, q.2)).map (·.2) := by rw [List.map_map]; rfl
    rw [e1]
    exact (key.map _).count_eq L
  refine List.perm_iff_count.mpr fun L => ?_
  by_cases z : L = 0
  · subst z
    rw [List.count_eq_zero.mpr fun z => absurd (cf.len_pos 0 z) (by decide), List.count_eq_zero.mpr fun z => absurd (cg.len_pos 0 z) (by decide)]
  · exact Nat.eq_of_mul_eq_mul_left (by omega) (hc L)
theorem ord_led {rf rg : List (List Nat)} (cf : Cyc N f rf) (cg : Cyc N g rg) (hf : Pm N f) (hh : Pm N h) (e : ∀ i, i < N → h (f i) = g (h i)) : ord rf = ord rg := by
  have p := lens_perm cf cg hf hh e
  refine Nat.dvd_antisymm ?_ ?_
  · exact (ordF_dvd _ _ _).mpr ⟨Nat.one_dvd _, fun l hl => ((ordF_dvd _ _ _).mp (Nat.dvd_refl (ord rg))).2 l (p.mem_iff.mp hl)⟩
  · exact (ordF_dvd _ _ _).mpr ⟨Nat.one_dvd _, fun l hl => ((ordF_dvd _ _ _).mp (Nat.dvd_refl (ord rf))).2 l (p.mem_iff.mpr hl)⟩
/-! ### wrong pairs counted -/
def wrong (N : Nat) (f : Nat → Nat) (i : Nat) : Nat := (((List.range N).drop (i + 1)).filter fun j => decide (f j < f i)).length
theorem wrong_succ {i : Nat} (hi : i < N) : wrong (N + 1) f i = wrong N f i + if f N < f i then 1 else 0 := by
  unfold wrong
  rw [List.range_succ, List.drop_append_of_le_length (by rw [List.length_range]; omega), List.filter_append, List.length_append]
  congr 1
  by_cases z : f N < f i
  · rw [if_pos z, List.filter_cons, if_pos (decide_eq_true z)]; rfl
  · rw [if_neg z, List.filter_cons, if_neg (by rw [decide_eq_false z]; decide)]; rfl
theorem wrong_last : wrong (N + 1) f N = 0 := by
  unfold wrong
  rw [List.drop_of_length_le (by rw [List.length_range]; omega)]
  rfl
theorem sum_add (a b : Nat → Nat) : ∀ l : List Nat, (l.map fun i => a i + b i).sum = (l.map a).sum + (l.map b).sum
  | [] => rfl
  | x :: l => by
    rw [List.map_cons, List.map_cons, List.map_cons, List.sum_cons, List.sum_cons, List.sum_cons, sum_add a b l]
    omega
theorem sum_if (p : Nat → Bool) : ∀ l : List Nat, (l.map fun i => if p i = true then 1 else 0).sum = (l.filter p).length
  | [] => rfl
  | x :: l => by
    rw [List.map_cons, List.sum_cons, sum_if p l, List.filter_cons]
    cases p x with
    | true => rw [if_pos rfl, if_pos rfl, List.length_cons]; omega
    | false => rw [if_neg (by decide), if_neg (by decide)]; omega
theorem wrong_all (f : Nat → Nat) : ∀ N, ((List.range N).map (wrong N f)).sum = ((prs N).filter (ivB f)).length
  | 0 => rfl
  | N + 1 => by
    have e : prs (N + 1) = prs N ++ (List.range N).map fun i => (i, N) := by
      unfold prs
      rw [List.range_succ, List.flatMap_append]
      simp
    have e1 : (List.range N).map (wrong (N + 1) f) = (List.range N).map fun i => wrong N f i + if (fun i => ivB f (i, N)) i = true then 1 else 0 := by
      refine List.map_congr_left fun i hi => ?_
      rw [wrong_succ (List.mem_range.mp hi)]
      congr 1
      unfold ivB
      by_cases z : f N < f i
      · rw [if_pos z, if_pos (decide_eq_true z)]
      · rw [if_neg z, if_neg (fun y => z (of_decide_eq_true y))]
    rw [e, List.filter_append, List.length_append, ← wrong_all f N, List.range_succ, List.map_append, List.sum_append, e1, sum_add, sum_if]
    have e2 : ((List.range N).map fun i => (i, N)).filter (ivB f) = ((List.range N).filter fun i => ivB f (i, N)).map fun i => (i, N) := by
      rw [List.filter_map]; rfl
    rw [e2, List.length_map]
    simp [wrong_last]
theorem xr_count {α : Type} (t : α → Bool) : ∀ l : List α, xr t l = decide ((l.filter t).length % 2 = 1)
  | [] => rfl
  | a :: l => by
    have ih := xr_count t l
    unfold xr
    rw [ih, List.filter_cons]
    cases t a with
    | true =>
      rw [if_pos rfl, List.length_cons]
      by_cases h : (l.filter t).length % 2 = 1
      · rw [decide_eq_true h, decide_eq_false (by omega)]; rfl
      · rw [decide_eq_false h, decide_eq_true (by omega)]; rfl
    | false =>
      rw [if_neg (by decide), Bool.false_xor]
theorem wrong_sg (N : Nat) (f : Nat → Nat) : sg N f = decide (((List.range N).map (wrong N f)).sum % 2 = 1) := by
  unfold sg
  rw [xr_count, wrong_all]
end Pa
end

section
set_option Elab.async false
set_option linter.all false
set_option maxRecDepth 100000
set_option maxHeartbeats 4000000
set_option exponentiation.threshold 20000
namespace Q
open DL PySem PyProof.Rows
theorem comp_map {α : Type} {i : Nat} {e : Env' → Mo D} {env : Env'} {F g : α → D} : ∀ {l : List α}, (∀ j ∈ l, e (env.set i (.val (F j))) = retM (g j)) → compM (tgN i) mYes e env (l.map F) = retM (l.map g)
  | [], _ => rfl
  | d :: ds, h => by
    rw [List.map_cons]
    unfold compM
    show DL.bindM (mYes (env.set i (.val (F d)))) _ = _
    rw [show mYes (env.set i (.val (F d))) = retM true from rfl, bindM_ret, if_pos rfl, h d List.mem_cons_self, bindM_ret, comp_map fun d' h' => h d' (List.mem_cons_of_mem _ h')]
    rfl
theorem comp_id {i : Nat} {e : Env' → Mo D} {env : Env'} {g : D → D} {l : List D} (h : ∀ j ∈ l, e (env.set i (.val j)) = retM (g j)) : compM (tgN i) mYes e env l = retM (l.map g) := by
  have := comp_map (F := id) (g := g) (e := e) (env := env) (i := i) (l := l) h
  rw [List.map_id] at this
  exact this
theorem bls_map (f : D → Bool) : ∀ ds : List D, blsD (ds.map fun d => .bl (f d)) = some (ds.map f)
  | [] => rfl
  | d :: ds => by
    rw [List.map_cons, List.map_cons]
    unfold blsD
    rw [bls_map f ds]
theorem all_eq {i : Nat} {src : Env' → Mo (List D)} {e : Env' → Mo D} {env : Env'} {ds : List D} {f : D → Bool} (hs : src env = retM ds) (hl : ds.length ≤ 100000) (he : ∀ d ∈ ds, e ((wipeE env [i]).set i (.val d)) = retM (.bl (f d))) : mCall cAll (mCons (mLst (mLc src [i] (tgN i) mYes e)) mNil) env = retM (.bl (ds.all f)) := by
  have h1 := comp_id (g := fun d => .bl (f d)) he
  have h2 : mLc src [i] (tgN i) mYes e env = retM (ds.map fun d => .bl (f d)) := by
    unfold mLc
    rw [hs, bindM_ret, if_pos hl, h1]
  have h3 : cAll [.lst (ds.map fun d => .bl (f d))] = retM (.bl (ds.all f)) := by
    unfold cAll
    dsimp only
    rw [bls_map]
    dsimp only
    congr 2
    induction ds with
    | nil => rfl
    | cons d ds ih => simp [runD, env0, mSeq, mIfS, mNot, mB, mIsC, mVar, isC, mRet, mC, mTV, mAnd, mOr, mBin, mFld, dEqF, flV, retM, DL.bindM, mNx, mCall, lenM, mCons, mNil, mTup, mIsT, isT, mSet, mAsg, tgTup, tgCons, tgN, tgNil, mCallO, lenO, runO, mRetO, mLst, mIf, mUn, dNegI, mIsT2, mNoP, mPart, oListC, mDrop, mNever]
  funext p
  simp [runD, env0, mSeq, mIfS, mNot, mB, mIsC, mVar, isC, mRet, mC, mTV, mAnd, mOr, mBin, mFld, dEqF, flV, retM, DL.bindM, mNx, mCall, lenM, mCons, mNil, mTup, mIsT, isT, mSet, mAsg, tgTup, tgCons, tgN, tgNil, mCallO, lenO, runO, mRetO, mLst, mIf, mUn, dNegI, mIsT2, mNoP, mPart, oListC, mDrop, mNever, h2, h3]
def isI : D → Bool
  | .int _ => true
  | _ => false
def isN : D → Bool
  | .int i => decide (0 ≤ i)
  | _ => false
def cntB (m : Int) : D → Bool
  | .int i => decide (0 ≤ i) && decide (i ≤ m)
  | _ => false
def itemsD : D → Option (List D)
  | .lst ds => some ds
  | .tup ds => some ds
  | _ => none
theorem isint_eq {d : D} (h : d ≠ .pot) : d_is_integer [d] = retM (.bl (isI d)) := by
  funext p
  cases d <;> first | exact absurd rfl h | simp [runD, env0, mSeq, mIfS, mNot, mB, mIsC, mVar, isC, mRet, mC, mTV, mAnd, mOr, mBin, mFld, dEqF, flV, retM, DL.bindM, mNx, mCall, lenM, mCons, mNil, mTup, mIsT, isT, mSet, mAsg, tgTup, tgCons, tgN, tgNil, mCallO, lenO, runO, mRetO, mLst, mIf, mUn, dNegI, mIsT2, mNoP, mPart, oListC, mDrop, mNever, d_is_integer, m_is_integer, isI]
theorem iscount_eq {d : D} (h : d ≠ .pot) : d_is_count [d] = retM (.bl (isN d)) := by
  have h1 := isint_eq h
  funext p
  cases d <;> first | exact absurd rfl h | simp [runD, env0, mSeq, mIfS, mNot, mB, mIsC, mVar, isC, mRet, mC, mTV, mAnd, mOr, mBin, mFld, dEqF, flV, retM, DL.bindM, mNx, mCall, lenM, mCons, mNil, mTup, mIsT, isT, mSet, mAsg, tgTup, tgCons, tgN, tgNil, mCallO, lenO, runO, mRetO, mLst, mIf, mUn, dNegI, mIsT2, mNoP, mPart, oListC, mDrop, mNever, d_is_count, m_is_count, h1, isI, isN, dGe, dII]
theorem islist_eq {d : D} (h : d ≠ .pot) : d_is_list [d] = retM (.bl (itemsD d).isSome) := by
  funext p
  cases d <;> first | exact absurd rfl h | simp [runD, env0, mSeq, mIfS, mNot, mB, mIsC, mVar, isC, mRet, mC, mTV, mAnd, mOr, mBin, mFld, dEqF, flV, retM, DL.bindM, mNx, mCall, lenM, mCons, mNil, mTup, mIsT, isT, mSet, mAsg, tgTup, tgCons, tgN, tgNil, mCallO, lenO, runO, mRetO, mLst, mIf, mUn, dNegI, mIsT2, mNoP, mPart, oListC, mDrop, mNever, d_is_list, m_is_list, itemsD]
theorem ist2_eq {d : D} (h : d ≠ .pot) (env : Env') (i : Nat) (hv : env[i]? = some (.val d)) : mIsT2 "list" "tuple" (mVar i) env = retM (.bl (itemsD d).isSome) := by
  funext p
  cases d <;> first | exact absurd rfl h | simp [runD, env0, mSeq, mIfS, mNot, mB, mIsC, mVar, isC, mRet, mC, mTV, mAnd, mOr, mBin, mFld, dEqF, flV, retM, DL.bindM, mNx, mCall, lenM, mCons, mNil, mTup, mIsT, isT, mSet, mAsg, tgTup, tgCons, tgN, tgNil, mCallO, lenO, runO, mRetO, mLst, mIf, mUn, dNegI, mIsT2, mNoP, mPart, oListC, mDrop, mNever, hv, itemsD]
/-! ### lists of ints -/
def rngI (n : Nat) : List Int := (List.range n).map fun i => ((i : Nat) : Int)
theorem rng_eq (n : Nat) : rngD 0 n = (rngI n).map D.int := by
  unfold rngD rngI
  rw [List.map_map]
  refine List.map_congr_left fun i _ => ?_
  show D.int (0 + (i : Nat)) = D.int (i : Nat)
  rw [Int.zero_add]
theorem rngI_len (n : Nat) : (rngI n).length = n := by unfold rngI; simp [runD, env0, mSeq, mIfS, mNot, mB, mIsC, mVar, isC, mRet, mC, mTV, mAnd, mOr, mBin, mFld, dEqF, flV, retM, DL.bindM, mNx, mCall, lenM, mCons, mNil, mTup, mIsT, isT, mSet, mAsg, tgTup, tgCons, tgN, tgNil, mCallO, lenO, runO, mRetO, mLst, mIf, mUn, dNegI, mIsT2, mNoP, mPart, oListC, mDrop, mNever]
theorem eqL_ints (k : Nat) : ∀ (as bs : List Int), as.length = bs.length → eqL (deq uq (k + 1)) (as.map D.int) (bs.map D.int) = some (decide (as = bs))
  | [], [], _ => rfl
  | [], _ :: _, h => by simp [runD, env0, mSeq, mIfS, mNot, mB, mIsC, mVar, isC, mRet, mC, mTV, mAnd, mOr, mBin, mFld, dEqF, flV, retM, DL.bindM, mNx, mCall, lenM, mCons, mNil, mTup, mIsT, isT, mSet, mAsg, tgTup, tgCons, tgN, tgNil, mCallO, lenO, runO, mRetO, mLst, mIf, mUn, dNegI, mIsT2, mNoP, mPart, oListC, mDrop, mNever] at h
  | _ :: _, [], h => by simp [runD, env0, mSeq, mIfS, mNot, mB, mIsC, mVar, isC, mRet, mC, mTV, mAnd, mOr, mBin, mFld, dEqF, flV, retM, DL.bindM, mNx, mCall, lenM, mCons, mNil, mTup, mIsT, isT, mSet, mAsg, tgTup, tgCons, tgN, tgNil, mCallO, lenO, runO, mRetO, mLst, mIf, mUn, dNegI, mIsT2, mNoP, mPart, oListC, mDrop, mNever] at h
  | a :: as, b :: bs, h => by
    rw [List.map_cons, List.map_cons]
    unfold eqL
    have h1 : deq uq (k + 1) (.int a) (.int b) = some (a == b) := rfl
    rw [h1]
    by_cases hab : a = b
    · subst hab
      rw [show (a == a) = true by simp [runD, env0, mSeq, mIfS, mNot, mB, mIsC, mVar, isC, mRet, mC, mTV, mAnd, mOr, mBin, mFld, dEqF, flV, retM, DL.bindM, mNx, mCall, lenM, mCons, mNil, mTup, mIsT, isT, mSet, mAsg, tgTup, tgCons, tgN, tgNil, mCallO, lenO, runO, mRetO, mLst, mIf, mUn, dNegI, mIsT2, mNoP, mPart, oListC, mDrop, mNever]]
      dsimp only
      rw [eqL_ints k as bs (by simpa [runD, env0, mSeq, mIfS, mNot, mB, mIsC, mVar, isC, mRet, mC, mTV, mAnd, mOr, mBin, mFld, dEqF, flV, retM, DL.bindM, mNx, mCall, lenM, mCons, mNil, mTup, mIsT, isT, mSet, mAsg, tgTup, tgCons, tgN, tgNil, mCallO, lenO, runO, mRetO, mLst, mIf, mUn, dNegI, mIsT2, mNoP, mPart, oListC, mDrop, mNever] using h)]
      simp [runD, env0, mSeq, mIfS, mNot, mB, mIsC, mVar, isC, mRet, mC, mTV, mAnd, mOr, mBin, mFld, dEqF, flV, retM, DL.bindM, mNx, mCall, lenM, mCons, mNil, mTup, mIsT, isT, mSet, mAsg, tgTup, tgCons, tgN, tgNil, mCallO, lenO, runO, mRetO, mLst, mIf, mUn, dNegI, mIsT2, mNoP, mPart, oListC, mDrop, mNever]
    · rw [show (a == b) = false by simp [runD, env0, mSeq, mIfS, mNot, mB, mIsC, mVar, isC, mRet, mC, mTV, mAnd, mOr, mBin, mFld, dEqF, flV, retM, DL.bindM, mNx, mCall, lenM, mCons, mNil, mTup, mIsT, isT, mSet, mAsg, tgTup, tgCons, tgN, tgNil, mCallO, lenO, runO, mRetO, mLst, mIf, mUn, dNegI, mIsT2, mNoP, mPart, oListC, mDrop, mNever, hab]]
      simp [runD, env0, mSeq, mIfS, mNot, mB, mIsC, mVar, isC, mRet, mC, mTV, mAnd, mOr, mBin, mFld, dEqF, flV, retM, DL.bindM, mNx, mCall, lenM, mCons, mNil, mTup, mIsT, isT, mSet, mAsg, tgTup, tgCons, tgN, tgNil, mCallO, lenO, runO, mRetO, mLst, mIf, mUn, dNegI, mIsT2, mNoP, mPart, oListC, mDrop, mNever, hab]
theorem intsD_map : ∀ ns : List Int, intsD (ns.map D.int) = some ns
  | [] => rfl
  | n :: ns => by
    rw [List.map_cons]
    unfold intsD
    rw [intsD_map ns]
theorem intsD_of : ∀ {ds : List D}, ds.all isI = true → ∃ ns : List Int, ds = ns.map D.int
  | [], _ => ⟨[], rfl⟩
  | d :: ds, h => by
    rw [List.all_cons, Bool.and_eq_true] at h
    obtain ⟨ns, rfl⟩ := intsD_of h.2
    cases d <;> first | (cases h.1; done) | skip
    rename_i i
    exact ⟨i :: ns, rfl⟩
theorem sorted_lst (ns : List Int) : cSorted [.lst (ns.map .int)] = retM (.lst ((sortI ns).map .int)) := by
  unfold cSorted
  dsimp only
  rw [intsD_map]
theorem sorted_tup (ns : List Int) : cSorted [.tup (ns.map .int)] = retM (.lst ((sortI ns).map .int)) := by
  unfold cSorted
  dsimp only
  rw [intsD_map]
theorem eq_ints (ne : Bool) (as bs : List Int) : dEqU ne (.lst (as.map .int)) (.lst (bs.map .int)) = retM (.bl (decide (as = bs) != ne)) := by
  unfold dEqU dEqR
  have key : dEqO uq 4 ne (.lst (as.map .int)) (.lst (bs.map .int)) = retM (.bl (decide (as = bs) != ne)) := by
    have : deq uq 5 (.lst (as.map D.int)) (.lst (bs.map D.int)) = some (decide (as = bs)) := by
      show (if (as.map D.int).length = (bs.map D.int).length then eqL (deq uq 4) (as.map D.int) (bs.map D.int) else some false) = _
      rw [List.length_map, List.length_map]
      split
      · rename_i h
        exact eqL_ints 3 as bs h
      · rename_i h
        rw [decide_eq_false (fun z => h (by rw [z]))]
    unfold dEqO
    simp only [isIns, Bool.false_and, Bool.false_eq_true, if_false, this]
  rw [dOr_fail (by rfl)]
  exact key
theorem mul_ok {i j : Int} (h : i.natAbs < 10 ^ 60) (h' : j.natAbs < 10 ^ 60) : dMulI (.int i) (.int j) = retM (.int (i * j)) := by
  have hb : 10 ^ 60 < bigN := by unfold bigN; decide +kernel
  have h1 := Nat.lt_trans h hb
  have h2 := Nat.lt_trans h' hb
  unfold dMulI dII
  simp only [h1, h2, decide_true, Bool.and_self, if_pos]
end Q
end

section
set_option Elab.async false
set_option linter.all false
set_option maxRecDepth 100000
set_option maxHeartbeats 4000000
set_option exponentiation.threshold 20000
namespace Q
open DL PySem PyProof.Rows
theorem sortI_perm (ns : List Int) : (sortI ns).Perm ns := List.mergeSort_perm ns _
def dealB (p : Nat) (v : D) : Bool := match itemsD v with
  | some ds => match intsD ds with
    | some ns => decide (sortI ns = rngI (p * p))
    | none => false
  | none => false
theorem intsD_inv : ∀ {ds : List D} {ns : List Int}, intsD ds = some ns → ds = ns.map D.int
  | [], ns, h => by cases h; rfl
  | d :: ds, ns, h => by
    cases d <;> first | (cases h; done) | skip
    rename_i i
    unfold intsD at h
    rcases z : intsD ds with _ | ms
    · rw [z] at h; cases h
    · rw [z] at h
      cases h
      rw [intsD_inv z]; rfl
theorem rngI_mem {n : Nat} {i : Int} (h : i ∈ rngI n) : 0 ≤ i ∧ i < n := by
  unfold rngI at h
  obtain ⟨j, hj, rfl⟩ := List.mem_map.mp h
  have := List.mem_range.mp hj
  omega
theorem deal_mem {p : Nat} {ns : List Int} (h : sortI ns = rngI (p * p)) {i : Int} (hi : i ∈ ns) : 0 ≤ i ∧ i < ((p * p : Nat) : Int) := by
  have h1 : i ∈ sortI ns := (sortI_perm ns).mem_iff.mpr hi
  rw [h] at h1
  exact rngI_mem h1
theorem deal_len {p : Nat} {ns : List Int} (h : sortI ns = rngI (p * p)) : ns.length = p * p := by
  have h1 := (sortI_perm ns).length_eq
  rw [h, rngI_len] at h1
  exact h1.symm
theorem items_cases {v : D} {ds : List D} (h : itemsD v = some ds) : v = .lst ds ∨ v = .tup ds := by
  cases v <;> first | (cases h; done) | (cases h; first | exact .inl rfl | exact .inr rfl)
theorem sorted_items {v : D} {ns : List Int} (h : itemsD v = some (ns.map .int)) : cSorted [v] = retM (.lst ((sortI ns).map .int)) := by
  rcases items_cases h with rfl | rfl
  · exact sorted_lst ns
  · exact sorted_tup ns
theorem len_items {v : D} {ds : List D} (h : itemsD v = some ds) : cLen [v] = retM (.int (ds.length : Nat)) := by
  rcases items_cases h with rfl | rfl <;> rfl
theorem src_items {v : D} {ds : List D} (h : itemsD v = some ds) {m : Env' → Mo D} {env : Env'} (hm : m env = retM v) : srcS m env = retM ds := by
  unfold srcS
  rw [hm, bindM_ret]
  rcases items_cases h with rfl | rfl <;> rfl
theorem mulP (p : Nat) (hp : p ≤ 11) : dMulI (.int p) (.int p) = retM (.int ((p * p : Nat) : Int)) := by
  have hz : p < bigN := Nat.lt_of_le_of_lt hp (by unfold bigN; decide +kernel)
  funext q
  simp [runD, env0, mSeq, mIfS, mNot, mB, mIsC, mVar, isC, mRet, mC, mTV, mAnd, mOr, mBin, mFld, dEqF, flV, retM, DL.bindM, mNx, mCall, lenM, mCons, mNil, mTup, mIsT, isT, mSet, mAsg, tgTup, tgCons, tgN, tgNil, mCallO, lenO, runO, mRetO, mLst, mIf, mUn, dNegI, mIsT2, mNoP, mPart, oListC, mDrop, mNever, dMulI, dII, hz]
theorem sq_le {p : Nat} (hp : p ≤ 11) : p * p ≤ 121 := Nat.mul_le_mul hp hp
theorem rg1 {e : Env' → Mo D} {env : Env'} {n : Nat} (h : e env = retM (.int (n : Nat))) (hn : n ≤ 1000) : oRg1 e env = retM ((rngI n).map .int) := by
  unfold oRg1
  rw [h, bindM_ret]
  dsimp only
  rw [if_pos (by omega), Int.toNat_natCast, rng_eq]
/-- values of which the kinds can be told -/
def Kd (v : D) : Prop := v ≠ .pot ∧ ∀ ds, itemsD v = some ds → ds.length ≤ 100000 ∧ ∀ d ∈ ds, d ≠ .pot
theorem deal_of {p : Nat} (hp : p ≤ 11) {v : D} {ns : List Int} (h : itemsD v = some (ns.map .int)) : d_is_deal_of [.int p, v] = retM (.bl (decide (sortI ns = rngI (p * p)))) := by
  have h1 := sorted_items h
  have h2 := mulP p hp
  have h3 : oRg1 (mBin dMulI (mVar 0) (mVar 0)) [.val (.int (p : Nat)), .val v] = retM ((rngI (p * p)).map .int) := rg1 (by funext q; simp [runD, env0, mSeq, mIfS, mNot, mB, mIsC, mVar, isC, mRet, mC, mTV, mAnd, mOr, mBin, mFld, dEqF, flV, retM, DL.bindM, mNx, mCall, lenM, mCons, mNil, mTup, mIsT, isT, mSet, mAsg, tgTup, tgCons, tgN, tgNil, mCallO, lenO, runO, mRetO, mLst, mIf, mUn, dNegI, mIsT2, mNoP, mPart, oListC, mDrop, mNever, h2]) (Nat.le_trans (sq_le hp) (by decide))
  have h4 := eq_ints false (sortI ns) (rngI (p * p))
  rw [show (decide (sortI ns = rngI (p * p)) != false) = decide (sortI ns = rngI (p * p)) by cases decide (sortI ns = rngI (p * p)) <;> rfl] at h4
  have hm : m_is_deal_of = mRet (mBin (dEqU false) (mCall cSorted (mCons (mVar 1) mNil)) (mLst (oRg1 (mBin dMulI (mVar 0) (mVar 0))))) := rfl
  generalize oRg1 (mBin dMulI (mVar 0) (mVar 0)) = rg at *
  funext q
  simp [runD, env0, mSeq, mIfS, mNot, mB, mIsC, mVar, isC, mRet, mC, mTV, mAnd, mOr, mBin, mFld, dEqF, flV, retM, DL.bindM, mNx, mCall, lenM, mCons, mNil, mTup, mIsT, isT, mSet, mAsg, tgTup, tgCons, tgN, tgNil, mCallO, lenO, runO, mRetO, mLst, mIf, mUn, dNegI, mIsT2, mNoP, mPart, oListC, mDrop, mNever, d_is_deal_of, hm, h1, h3, h4]
theorem all_n {ns : List Int} : (ns.map D.int).all isN = ns.all fun i => decide (0 ≤ i) := by
  rw [List.all_map]; rfl
theorem isN_isI {ds : List D} (h : ds.all isN = true) : ds.all isI = true := by
  rw [List.all_eq_true] at *
  intro d hd
  have := h d hd
  cases d <;> first | rfl | cases this
theorem deal_prog {p : Nat} (hp : p ≤ 11) {v : D} (hv : Kd v) : d_is_dealt [.int p, v] = retM (.bl (dealB p v)) := by
  have h1 := islist_eq hv.1
  have h2 := mulP p hp
  have hm : m_is_dealt = mSeq (mIfS (mOr (mNot (mB (mCall (lenM 1 d_is_list) (mCons (mVar 1) mNil)))) (mOr (mB (mBin (dEqF true) (mCall cLen (mCons (mVar 1) mNil)) (mBin dMulI (mVar 0) (mVar 0)))) (mNot (mB (mCall cAll (mCons (mLst (mLc (srcS (mVar 1)) [2] (tgN 2) mYes (mCall (lenM 1 d_is_count) (mCons (mVar 2) mNil)))) mNil)))))) (mRet (mC (.bl false))) mNx) (mRet (mCall (lenM 2 d_is_deal_of) (mCons (mVar 0) (mCons (mVar 1) mNil)))) := rfl
  rcases hi : itemsD v with _ | ds
  · have hb : dealB p v = false := by unfold dealB; rw [hi]
    rw [hb]
    rw [hi] at h1
    funext q
    simp [runD, env0, mSeq, mIfS, mNot, mB, mIsC, mVar, isC, mRet, mC, mTV, mAnd, mOr, mBin, mFld, dEqF, flV, retM, DL.bindM, mNx, mCall, lenM, mCons, mNil, mTup, mIsT, isT, mSet, mAsg, tgTup, tgCons, tgN, tgNil, mCallO, lenO, runO, mRetO, mLst, mIf, mUn, dNegI, mIsT2, mNoP, mPart, oListC, mDrop, mNever, d_is_dealt, hm, h1]
  · obtain ⟨hl, hd⟩ := hv.2 ds hi
    rw [hi] at h1
    have h3 := len_items hi
    have h4 : mCall cAll (mCons (mLst (mLc (srcS (mVar 1)) [2] (tgN 2) mYes (mCall (lenM 1 d_is_count) (mCons (mVar 2) mNil)))) mNil) [.val (.int (p : Nat)), .val v, .un] = retM (.bl (ds.all isN)) := all_eq (src_items hi rfl) hl fun d hdd => by
      have := iscount_eq (hd d hdd)
      funext q; simp [runD, env0, mSeq, mIfS, mNot, mB, mIsC, mVar, isC, mRet, mC, mTV, mAnd, mOr, mBin, mFld, dEqF, flV, retM, DL.bindM, mNx, mCall, lenM, mCons, mNil, mTup, mIsT, isT, mSet, mAsg, tgTup, tgCons, tgN, tgNil, mCallO, lenO, runO, mRetO, mLst, mIf, mUn, dNegI, mIsT2, mNoP, mPart, oListC, mDrop, mNever, wipeE, this]
    generalize mCall cAll (mCons (mLst (mLc (srcS (mVar 1)) [2] (tgN 2) mYes (mCall (lenM 1 d_is_count) (mCons (mVar 2) mNil)))) mNil) = al at *
    by_cases hlen : ds.length = p * p
    · cases hall : ds.all isN with
      | false =>
        have hb : dealB p v = false := by
          unfold dealB
          rw [hi]
          dsimp only
          rcases hn : intsD ds with _ | ns
          · rfl
          · refine decide_eq_false fun z => ?_
            rw [intsD_inv hn, all_n] at hall
            have : (ns.all fun i => decide (0 ≤ i)) = true := List.all_eq_true.mpr fun i hii => decide_eq_true (deal_mem z hii).1
            rw [this] at hall
            cases hall
        rw [hall] at h4
        rw [hb]
        funext q
        simp [runD, env0, mSeq, mIfS, mNot, mB, mIsC, mVar, isC, mRet, mC, mTV, mAnd, mOr, mBin, mFld, dEqF, flV, retM, DL.bindM, mNx, mCall, lenM, mCons, mNil, mTup, mIsT, isT, mSet, mAsg, tgTup, tgCons, tgN, tgNil, mCallO, lenO, runO, mRetO, mLst, mIf, mUn, dNegI, mIsT2, mNoP, mPart, oListC, mDrop, mNever, d_is_dealt, hm, h1, h2, h3, h4, hlen, L2.scal]
      | true =>
        obtain ⟨ns, rfl⟩ := intsD_of (isN_isI hall)
        have hb : dealB p v = decide (sortI ns = rngI (p * p)) := by
          unfold dealB
          rw [hi]
          dsimp only
          rw [intsD_map]
        have h5 := deal_of hp hi
        rw [hall] at h4
        rw [hb]
        rw [hlen] at h3
        funext q
        simp [runD, env0, mSeq, mIfS, mNot, mB, mIsC, mVar, isC, mRet, mC, mTV, mAnd, mOr, mBin, mFld, dEqF, flV, retM, DL.bindM, mNx, mCall, lenM, mCons, mNil, mTup, mIsT, isT, mSet, mAsg, tgTup, tgCons, tgN, tgNil, mCallO, lenO, runO, mRetO, mLst, mIf, mUn, dNegI, mIsT2, mNoP, mPart, oListC, mDrop, mNever, d_is_dealt, hm, h1, h2, h3, h4, h5, L2.scal]
    · have hb : dealB p v = false := by
        unfold dealB
        rw [hi]
        dsimp only
        rcases hn : intsD ds with _ | ns
        · rfl
        · refine decide_eq_false fun z => hlen ?_
          rw [intsD_inv hn, List.length_map]
          exact deal_len z
      have hne : ¬ ((ds.length : Int) = ((p * p : Nat) : Int)) := by omega
      rw [hb]
      generalize ((p * p : Nat) : Int) = P at *
      funext q
      simp [runD, env0, mSeq, mIfS, mNot, mB, mIsC, mVar, isC, mRet, mC, mTV, mAnd, mOr, mBin, mFld, dEqF, flV, retM, DL.bindM, mNx, mCall, lenM, mCons, mNil, mTup, mIsT, isT, mSet, mAsg, tgTup, tgCons, tgN, tgNil, mCallO, lenO, runO, mRetO, mLst, mIf, mUn, dNegI, mIsT2, mNoP, mPart, oListC, mDrop, mNever, d_is_dealt, hm, h1, h2, h3, hne, L2.scal]
theorem want_prime_eq {p : Nat} (hp : p = 3 ∨ p = 5 ∨ p = 7 ∨ p = 11) : d_want_prime [.int p] = retM .non := by
  have h1 := isint_eq (d := .int (p : Nat)) (fun z => nomatch z)
  have h2 : dInF true (.int (p : Nat)) (.tup (([3, 5, 7, 11] : List Int).map .int)) = retM (.bl false) := by
    rcases hp with rfl | rfl | rfl | rfl <;> rfl
  funext q
  simp only [List.map_cons, List.map_nil] at h2
  simp [runD, env0, mSeq, mIfS, mNot, mB, mIsC, mVar, isC, mRet, mC, mTV, mAnd, mOr, mBin, mFld, dEqF, flV, retM, DL.bindM, mNx, mCall, lenM, mCons, mNil, mTup, mIsT, isT, mSet, mAsg, tgTup, tgCons, tgN, tgNil, mCallO, lenO, runO, mRetO, mLst, mIf, mUn, dNegI, mIsT2, mNoP, mPart, oListC, mDrop, mNever, d_want_prime, m_want_prime, h1, h2, isI]
theorem wantdeal_eq {p : Nat} (hp : p ≤ 11) {v : D} (hv : Kd v) {ns : List Int} (h : itemsD v = some (ns.map .int)) (hd : sortI ns = rngI (p * p)) : o_want_deal [.int p, v] = retM (ns.map .int) := by
  have h2 := deal_prog hp hv
  have hb : dealB p v = true := by
    unfold dealB
    rw [h]
    dsimp only
    rw [intsD_map]
    exact decide_eq_true hd
  rw [hb] at h2
  have h3 : oListC [v] = retM (ns.map .int) := by
    rcases items_cases h with rfl | rfl <;> rfl
  unfold oListC at h3
  funext q
  simp [runD, env0, mSeq, mIfS, mNot, mB, mIsC, mVar, isC, mRet, mC, mTV, mAnd, mOr, mBin, mFld, dEqF, flV, retM, DL.bindM, mNx, mCall, lenM, mCons, mNil, mTup, mIsT, isT, mSet, mAsg, tgTup, tgCons, tgN, tgNil, mCallO, lenO, runO, mRetO, mLst, mIf, mUn, dNegI, mIsT2, mNoP, mPart, oListC, mDrop, mNever, o_want_deal, m_want_deal, h2, h3]
end Q
end

section
set_option Elab.async false
set_option linter.all false
set_option maxRecDepth 100000
set_option maxHeartbeats 4000000
set_option exponentiation.threshold 20000
/-! k47: rounds of a deal, told by the program. -/
namespace Q
open DL PySem PyProof.Rows Pa
def isP (p : Nat) : Prop := p = 3 ∨ p = 5 ∨ p = 7 ∨ p = 11
theorem isP.le {p : Nat} (h : isP p) : p ≤ 11 := by unfold isP at h; omega
theorem isP.pos {p : Nat} (h : isP p) : 3 ≤ p := by unfold isP at h; omega
/-- the list of what f makes of the numbers below N -/
def tb (N : Nat) (f : Nat → Nat) : List D := (List.range N).map fun i => D.int ((f i : Nat) : Int)
def nl (l : List Nat) : List D := l.map fun i => D.int ((i : Nat) : Int)
def bl (l : List Bool) : List D := l.map D.bl
theorem tb_len {N : Nat} {f : Nat → Nat} : (tb N f).length = N := by unfold tb; simp [runD, env0, mSeq, mIfS, mNot, mB, mIsC, mVar, isC, mRet, mC, mTV, mAnd, mOr, mBin, mFld, dEqF, flV, retM, DL.bindM, mNx, mCall, lenM, mCons, mNil, mTup, mIsT, isT, mSet, mAsg, tgTup, tgCons, tgN, tgNil, mCallO, lenO, runO, mRetO, mLst, mIf, mUn, dNegI, mIsT2, mNoP, mPart, oListC, mDrop, mNever]
theorem tb_get {N : Nat} {f : Nat → Nat} {i : Nat} (h : i < N) : (tb N f)[i]? = some (.int (f i : Nat)) := by
  unfold tb
  rw [List.getElem?_map, List.getElem?_range h]
  rfl
theorem tb_congr {N : Nat} {f g : Nat → Nat} (h : ∀ i, i < N → f i = g i) : tb N f = tb N g := by
  unfold tb
  exact List.map_congr_left fun i hi => by rw [h i (List.mem_range.mp hi)]
theorem ixN_nat {n i : Nat} (h : i < n) : L2.ixN n (i : Int) = some i := by
  unfold L2.ixN
  rw [if_pos (by omega), if_pos (by omega), Int.toNat_natCast]
theorem at_lst {ds : List D} {i : Nat} {d : D} (h : ds[i]? = some d) : atD (.lst ds) (.int (i : Nat)) = retM d := by
  have hi : i < ds.length := (List.getElem?_eq_some_iff.mp h).1
  have e : L2.atI ds (i : Int) = some d := by
    unfold L2.atI
    rw [ixN_nat hi]
    exact h
  unfold atD
  dsimp only
  rw [e]
theorem at_tup {ds : List D} {i : Nat} {d : D} (h : ds[i]? = some d) : atD (.tup ds) (.int (i : Nat)) = retM d := by
  have hi : i < ds.length := (List.getElem?_eq_some_iff.mp h).1
  have e : L2.atI ds (i : Int) = some d := by
    unfold L2.atI
    rw [ixN_nat hi]
    exact h
  unfold atD
  dsimp only
  rw [e]
theorem at_tb {N : Nat} {f : Nat → Nat} {i : Nat} (h : i < N) : atD (.lst (tb N f)) (.int (i : Nat)) = retM (.int (f i : Nat)) := at_lst (tb_get h)
theorem bl_get {bs : List Bool} {i : Nat} (h : i < bs.length) : (bl bs)[i]? = some (.bl (sn bs i)) := by
  unfold bl
  rw [List.getElem?_map, sn_get h]
  rfl
theorem bl_set (bs : List Bool) (i : Nat) (b : Bool) : (bl bs).set i (.bl b) = bl (bs.set i b) := by
  unfold bl
  rw [List.map_set]
theorem bl_len {bs : List Bool} : (bl bs).length = bs.length := by unfold bl; simp [runD, env0, mSeq, mIfS, mNot, mB, mIsC, mVar, isC, mRet, mC, mTV, mAnd, mOr, mBin, mFld, dEqF, flV, retM, DL.bindM, mNx, mCall, lenM, mCons, mNil, mTup, mIsT, isT, mSet, mAsg, tgTup, tgCons, tgN, tgNil, mCallO, lenO, runO, mRetO, mLst, mIf, mUn, dNegI, mIsT2, mNoP, mPart, oListC, mDrop, mNever]
theorem nl_app (l : List Nat) (i : Nat) : nl l ++ [D.int (i : Nat)] = nl (l ++ [i]) := by unfold nl; simp [runD, env0, mSeq, mIfS, mNot, mB, mIsC, mVar, isC, mRet, mC, mTV, mAnd, mOr, mBin, mFld, dEqF, flV, retM, DL.bindM, mNx, mCall, lenM, mCons, mNil, mTup, mIsT, isT, mSet, mAsg, tgTup, tgCons, tgN, tgNil, mCallO, lenO, runO, mRetO, mLst, mIf, mUn, dNegI, mIsT2, mNoP, mPart, oListC, mDrop, mNever]
theorem nl_len {l : List Nat} : (nl l).length = l.length := by unfold nl; simp [runD, env0, mSeq, mIfS, mNot, mB, mIsC, mVar, isC, mRet, mC, mTV, mAnd, mOr, mBin, mFld, dEqF, flV, retM, DL.bindM, mNx, mCall, lenM, mCons, mNil, mTup, mIsT, isT, mSet, mAsg, tgTup, tgCons, tgN, tgNil, mCallO, lenO, runO, mRetO, mLst, mIf, mUn, dNegI, mIsT2, mNoP, mPart, oListC, mDrop, mNever]
def cyC : Env' → Mo Bool := mNot (mB (mBin atD (mVarB 2) (mVar 3)))
def cyB : MS := mSeq (mSetIx 2 (mC (.bl true)) (mVar 3)) (mSeq (mApp 4 (mVar 3)) (mSet 3 (mBin atD (mVar 0) (mVar 3))))
theorem cy_test {dl : D} {fd rw : List D} {bs : List Bool} {h : Nat} (hh : h < bs.length) : cyC [.val dl, .own fd, .own (bl bs), .val (.int (h : Nat)), .own rw] = retM (!(sn bs h)) := by
  have h1 := at_lst (bl_get hh)
  funext q
  simp [runD, env0, mSeq, mIfS, mNot, mB, mIsC, mVar, isC, mRet, mC, mTV, mAnd, mOr, mBin, mFld, dEqF, flV, retM, DL.bindM, mNx, mCall, lenM, mCons, mNil, mTup, mIsT, isT, mSet, mAsg, tgTup, tgCons, tgN, tgNil, mCallO, lenO, runO, mRetO, mLst, mIf, mUn, dNegI, mIsT2, mNoP, mPart, oListC, mDrop, mNever, cyC, mVarB, h1]
theorem cy_body {N : Nat} {f : Nat → Nat} {fd : List D} {row : List Nat} {bs : List Bool} {h : Nat} (hN : N ≤ 1000) (hb : bs.length = N) (hh : h < N) (hr : row.length ≤ 1000) : cyB [.val (.lst (tb N f)), .own fd, .own (bl bs), .val (.int (h : Nat)), .own (nl row)] = retM (.nx, [.val (.lst (tb N f)), .own fd, .own (bl (bs.set h true)), .val (.int (f h : Nat)), .own (nl (row ++ [h]))]) := by
  have h1 := at_tb (f := f) hh
  have h2 : L2.ixN (bl bs).length (h : Int) = some h := ixN_nat (by rw [bl_len, hb]; exact hh)
  have h3 : (nl row).length ≤ 100000 := by rw [nl_len]; omega
  have h4 := nl_app row h
  have h5 := bl_set bs h true
  generalize tb N f = t at *
  generalize nl row = r at *
  funext q
  simp [runD, env0, mSeq, mIfS, mNot, mB, mIsC, mVar, isC, mRet, mC, mTV, mAnd, mOr, mBin, mFld, dEqF, flV, retM, DL.bindM, mNx, mCall, lenM, mCons, mNil, mTup, mIsT, isT, mSet, mAsg, tgTup, tgCons, tgN, tgNil, mCallO, lenO, runO, mRetO, mLst, mIf, mUn, dNegI, mIsT2, mNoP, mPart, oListC, mDrop, mNever, cyB, mSetIx, h2, mApp, h3, h1, h4, h5]
theorem while_go {c : Env' → Mo Bool} {b : MS} {n : Nat} {env env' : Env'} (h : c env = retM true) (hb : b env = retM (.nx, env')) : whileM c b (n + 1) env = whileM c b n env' := by
  show DL.bindM (c env) _ = _
  rw [h, bindM_ret, if_pos rfl, hb, bindM_ret]
theorem while_stop {c : Env' → Mo Bool} {b : MS} {n : Nat} {env : Env'} (h : c env = retM false) : whileM c b (n + 1) env = retM (.nx, env) := by
  show DL.bindM (c env) _ = _
  rw [h, bindM_ret, if_neg (by decide)]
def lyC : Env' → Mo Bool := mNot (mB (mBin atD (mVarB 2) (mVar 5)))
def lyB : MS := mSeq (mSetIx 2 (mC (.bl true)) (mVar 5)) (mSeq (mApp 4 (mVar 5)) (mSet 5 (mBin atD (mVar 0) (mVar 5))))
theorem ly_test {dl : D} {fd rw : List D} {bs : List Bool} {h : Nat} {v3 : SV} (hh : h < bs.length) : lyC [.val dl, .own fd, .own (bl bs), v3, .own rw, .val (.int (h : Nat))] = retM (!(sn bs h)) := by
  have h1 := at_lst (bl_get hh)
  funext q
  simp [runD, env0, mSeq, mIfS, mNot, mB, mIsC, mVar, isC, mRet, mC, mTV, mAnd, mOr, mBin, mFld, dEqF, flV, retM, DL.bindM, mNx, mCall, lenM, mCons, mNil, mTup, mIsT, isT, mSet, mAsg, tgTup, tgCons, tgN, tgNil, mCallO, lenO, runO, mRetO, mLst, mIf, mUn, dNegI, mIsT2, mNoP, mPart, oListC, mDrop, mNever, lyC, mVarB, h1]
theorem ly_body {N : Nat} {f : Nat → Nat} {fd : List D} {row : List Nat} {bs : List Bool} {h : Nat} {v3 : SV} (hN : N ≤ 1000) (hb : bs.length = N) (hh : h < N) (hr : row.length ≤ 1000) : lyB [.val (.lst (tb N f)), .own fd, .own (bl bs), v3, .own (nl row), .val (.int (h : Nat))] = retM (.nx, [.val (.lst (tb N f)), .own fd, .own (bl (bs.set h true)), v3, .own (nl (row ++ [h])), .val (.int (f h : Nat))]) := by
  have h1 := at_tb (f := f) hh
  have h2 : L2.ixN (bl bs).length (h : Int) = some h := ixN_nat (by rw [bl_len, hb]; exact hh)
  have h3 : (nl row).length ≤ 100000 := by rw [nl_len]; omega
  have h4 := nl_app row h
  have h5 := bl_set bs h true
  generalize tb N f = t at *
  generalize nl row = r at *
  funext q
  simp [runD, env0, mSeq, mIfS, mNot, mB, mIsC, mVar, isC, mRet, mC, mTV, mAnd, mOr, mBin, mFld, dEqF, flV, retM, DL.bindM, mNx, mCall, lenM, mCons, mNil, mTup, mIsT, isT, mSet, mAsg, tgTup, tgCons, tgN, tgNil, mCallO, lenO, runO, mRetO, mLst, mIf, mUn, dNegI, mIsT2, mNoP, mPart, oListC, mDrop, mNever, lyB, mSetIx, h2, mApp, h3, h1, h4, h5]
theorem cy_while {N : Nat} {f : Nat → Nat} (hf : Pm N f) (hN : N ≤ 1000) (fd : List D) (v3 : SV) {rows : List (List Nat)} {s : Nat} : ∀ (k : Nat) (l : Nat) (row : List Nat) (bs : List Bool), N - row.length < k → Inn N f rows bs s l row →
    ∃ bs' row' x, whileM cyC cyB k [.val (.lst (tb N f)), .own fd, .own (bl bs), .val (.int (f l : Nat)), .own (nl row)] = retM (.nx, [.val (.lst (tb N f)), .own fd, .own (bl bs'), .val x, .own (nl row')]) ∧ whileM lyC lyB k [.val (.lst (tb N f)), .own fd, .own (bl bs), v3, .own (nl row), .val (.int (f l : Nat))] = retM (.nx, [.val (.lst (tb N f)), .own fd, .own (bl bs'), v3, .own (nl row'), .val x]) ∧ Pa.Out N f bs' (rows ++ [row']) ∧ row' ≠ [] ∧ (∀ i, i < N → sn bs i = true → sn bs' i = true)
  | 0, l, row, bs, hk, I => absurd hk (Nat.not_lt_zero _)
  | k + 1, l, row, bs, hk, I => by
    have hfl := hf.lt l I.l_lt
    have ht := cy_test (dl := .lst (tb N f)) (fd := fd) (rw := nl row) (bs := bs) (h := f l) (by rw [I.len]; exact hfl)
    have ht2 := ly_test (dl := .lst (tb N f)) (fd := fd) (rw := nl row) (bs := bs) (h := f l) (v3 := v3) (by rw [I.len]; exact hfl)
    rcases hs : sn bs (f l) with _ | _
    · have I2 := I.step hf hs
      have hle := I2.row_le
      rw [List.length_append, List.length_singleton] at hle
      obtain ⟨bs', row', x, e, ez, o, h0, hm⟩ := cy_while hf hN fd v3 k (f l) (row ++ [f l]) (bs.set (f l) true) (by rw [List.length_append, List.length_singleton]; omega) I2
      refine ⟨bs', row', x, ?_, ?_, o, h0, fun i hi hsi => hm i hi ?_⟩
      · have hb := cy_body (f := f) (fd := fd) (row := row) (bs := bs) (h := f l) hN I.len hfl (by omega)
        rw [hs] at ht
        rw [while_go ht hb, e]
      · have hb := ly_body (f := f) (fd := fd) (row := row) (bs := bs) (h := f l) (v3 := v3) hN I.len hfl (by omega)
        rw [hs] at ht2
        rw [while_go ht2 hb, ez]
      · rw [sn_set (by rw [I.len]; exact hfl)]
        exact add_of hsi
    · rw [hs] at ht ht2
      exact ⟨bs, row, .int (f l : Nat), while_stop ht, while_stop ht2, I.done hf hs, (fun z => by have := I.hd; rw [z] at this; cases this), fun _ _ h => h⟩
theorem eq_nil (ne : Bool) (ds : List D) : dEqU ne (.lst ds) (.lst []) = retM (.bl (ds.isEmpty != ne)) := by
  unfold dEqU dEqR
  have key : dEqO uq 4 ne (.lst ds) (.lst []) = retM (.bl (ds.isEmpty != ne)) := by
    have : deq uq 5 (.lst ds) (.lst []) = some ds.isEmpty := by
      cases ds <;> rfl
    unfold dEqO
    simp only [isIns, Bool.false_and, Bool.false_eq_true, if_false, this]
  cases ds with
  | nil => rw [dOr_fail (by rfl)]; exact key
  | cons d ds => rw [dOr_fail (by rfl)]; exact key
def rowsD (rows : List (List Nat)) : List D := rows.map fun r => D.lst (nl r)
def cyO : MS := mSeq (mSetO 4 (mNew mNil)) (mSeq (mWhile cyC cyB) (mFrz 4 (mExt 1 (mIf (mBorT 4 (mB (mBin (dEqU true) (mVar 4) (mLst (mNew mNil))))) (mLst (mNew (mCons (mVar 4) mNil))) (mLst (mNew mNil))))))
theorem cy_end {dl d2 : SV} {fd : List D} {row : List Nat} {x : SV} (hl : fd.length + 1 ≤ 100000) : ∃ w, mFrz 4 (mExt 1 (mIf (mBorT 4 (mB (mBin (dEqU true) (mVar 4) (mLst (mNew mNil))))) (mLst (mNew (mCons (mVar 4) mNil))) (mLst (mNew mNil)))) [dl, .own fd, d2, x, .own (nl row)] = retM (.nx, [dl, .own (fd ++ if row = [] then [] else [.lst (nl row)]), d2, x, w]) := by
  have h1 := eq_nil true (nl row)
  refine ⟨.val (.lst (nl row)), ?_⟩
  generalize dEqU = eqf at *
  cases row with
  | nil =>
    have e : (nl []).isEmpty = true := rfl
    rw [e] at h1
    have hl2 : fd.length ≤ 100000 := by omega
    funext q
    simp [runD, env0, mSeq, mIfS, mNot, mB, mIsC, mVar, isC, mRet, mC, mTV, mAnd, mOr, mBin, mFld, dEqF, flV, retM, DL.bindM, mNx, mCall, lenM, mCons, mNil, mTup, mIsT, isT, mSet, mAsg, tgTup, tgCons, tgN, tgNil, mCallO, lenO, runO, mRetO, mLst, mIf, mUn, dNegI, mIsT2, mNoP, mPart, oListC, mDrop, mNever, mFrz, mExt, mBorT, mNew, h1, hl2]
  | cons a r =>
    have e : (nl (a :: r)).isEmpty = false := rfl
    rw [e] at h1
    rw [if_neg (fun z => nomatch z)]
    generalize nl (a :: r) = rw' at *
    funext q
    simp [runD, env0, mSeq, mIfS, mNot, mB, mIsC, mVar, isC, mRet, mC, mTV, mAnd, mOr, mBin, mFld, dEqF, flV, retM, DL.bindM, mNx, mCall, lenM, mCons, mNil, mTup, mIsT, isT, mSet, mAsg, tgTup, tgCons, tgN, tgNil, mCallO, lenO, runO, mRetO, mLst, mIf, mUn, dNegI, mIsT2, mNoP, mPart, oListC, mDrop, mNever, mFrz, mExt, mBorT, mNew, h1, hl]
def lyO : MS := mSeq (mParOV 4 5 (mNew mNil) (mVar 3)) (mSeq (mWhile lyC lyB) (mFrz 4 (mExt 1 (mIf (mBorT 4 (mB (mBin (dEqU true) (mVar 4) (mLst (mNew mNil))))) (mLst (mNew (mCons (mVar 4) mNil))) (mLst (mNew mNil))))))
theorem ly_end {dl d2 : SV} {fd : List D} {row : List Nat} {x y : SV} (hl : fd.length + 1 ≤ 100000) : ∃ w, mFrz 4 (mExt 1 (mIf (mBorT 4 (mB (mBin (dEqU true) (mVar 4) (mLst (mNew mNil))))) (mLst (mNew (mCons (mVar 4) mNil))) (mLst (mNew mNil)))) [dl, .own fd, d2, x, .own (nl row), y] = retM (.nx, [dl, .own (fd ++ if row = [] then [] else [.lst (nl row)]), d2, x, w, y]) := by
  have h1 := eq_nil true (nl row)
  refine ⟨.val (.lst (nl row)), ?_⟩
  generalize dEqU = eqf at *
  cases row with
  | nil =>
    have e : (nl []).isEmpty = true := rfl
    rw [e] at h1
    have hl2 : fd.length ≤ 100000 := by omega
    funext q
    simp [runD, env0, mSeq, mIfS, mNot, mB, mIsC, mVar, isC, mRet, mC, mTV, mAnd, mOr, mBin, mFld, dEqF, flV, retM, DL.bindM, mNx, mCall, lenM, mCons, mNil, mTup, mIsT, isT, mSet, mAsg, tgTup, tgCons, tgN, tgNil, mCallO, lenO, runO, mRetO, mLst, mIf, mUn, dNegI, mIsT2, mNoP, mPart, oListC, mDrop, mNever, mFrz, mExt, mBorT, mNew, h1, hl2]
  | cons a r =>
    have e : (nl (a :: r)).isEmpty = false := rfl
    rw [e] at h1
    rw [if_neg (fun z => nomatch z)]
    generalize nl (a :: r) = rw' at *
    funext q
    simp [runD, env0, mSeq, mIfS, mNot, mB, mIsC, mVar, isC, mRet, mC, mTV, mAnd, mOr, mBin, mFld, dEqF, flV, retM, DL.bindM, mNx, mCall, lenM, mCons, mNil, mTup, mIsT, isT, mSet, mAsg, tgTup, tgCons, tgN, tgNil, mCallO, lenO, runO, mRetO, mLst, mIf, mUn, dNegI, mIsT2, mNoP, mPart, oListC, mDrop, mNever, mFrz, mExt, mBorT, mNew, h1, hl]
theorem cy_round {N : Nat} {f : Nat → Nat} (hf : Pm N f) (hN : N ≤ 1000) {rows : List (List Nat)} {bs : List Bool} {s : Nat} (hs : s < N) (k : Pa.Out N f bs rows) (hr : rows.length ≤ 1000) (w4 z4 z5 : SV) : ∃ bs' rows' w3 w5 u4 u5, cyO [.val (.lst (tb N f)), .own (rowsD rows), .own (bl bs), .val (.int (s : Nat)), w4] = retM (.nx, [.val (.lst (tb N f)), .own (rowsD rows'), .own (bl bs'), w3, w5]) ∧ lyO [.val (.lst (tb N f)), .own (rowsD rows), .own (bl bs), .val (.int (s : Nat)), z4, z5] = retM (.nx, [.val (.lst (tb N f)), .own (rowsD rows'), .own (bl bs'), .val (.int (s : Nat)), u4, u5]) ∧ Pa.Out N f bs' rows' ∧ sn bs' s = true ∧ (∀ i, i < N → sn bs i = true → sn bs' i = true) ∧ rows'.length ≤ rows.length + 1 := by
  have ht := cy_test (dl := .lst (tb N f)) (fd := rowsD rows) (rw := nl []) (bs := bs) (h := s) (by rw [k.len]; exact hs)
  have hrl : (rowsD rows).length + 1 ≤ 100000 := by unfold rowsD; rw [List.length_map]; omega
  have hset : mSetO 4 (mNew mNil) [.val (.lst (tb N f)), .own (rowsD rows), .own (bl bs), .val (.int (s : Nat)), w4] = retM (.nx, [.val (.lst (tb N f)), .own (rowsD rows), .own (bl bs), .val (.int (s : Nat)), .own (nl [])]) := by
    generalize tb N f = t at *
    funext q
    simp [runD, env0, mSeq, mIfS, mNot, mB, mIsC, mVar, isC, mRet, mC, mTV, mAnd, mOr, mBin, mFld, dEqF, flV, retM, DL.bindM, mNx, mCall, lenM, mCons, mNil, mTup, mIsT, isT, mSet, mAsg, tgTup, tgCons, tgN, tgNil, mCallO, lenO, runO, mRetO, mLst, mIf, mUn, dNegI, mIsT2, mNoP, mPart, oListC, mDrop, mNever, mSetO, mNew, nl]
  have hfin : ∀ {x : SV} {bs' : List Bool} {row' : List Nat} {y : SV}, (mWhile cyC cyB) [.val (.lst (tb N f)), .own (rowsD rows), .own (bl bs), .val (.int (s : Nat)), .own (nl [])] = retM (.nx, [.val (.lst (tb N f)), .own (rowsD rows), .own (bl bs'), x, .own (nl row')]) → ∃ w, cyO [.val (.lst (tb N f)), .own (rowsD rows), .own (bl bs), .val (.int (s : Nat)), w4] = retM (.nx, [.val (.lst (tb N f)), .own (rowsD rows ++ if row' = [] then [] else [.lst (nl row')]), .own (bl bs'), x, w]) := by
    intro x bs' row' y hw
    obtain ⟨w, e⟩ := cy_end (dl := .val (.lst (tb N f))) (d2 := .own (bl bs')) (fd := rowsD rows) (row := row') (x := x) hrl
    refine ⟨w, ?_⟩
    unfold cyO
    generalize mFrz 4 (mExt 1 (mIf (mBorT 4 (mB (mBin (dEqU true) (mVar 4) (mLst (mNew mNil))))) (mLst (mNew (mCons (mVar 4) mNil))) (mLst (mNew mNil)))) = fz at *
    generalize mWhile cyC cyB = wh at *
    generalize mSetO 4 (mNew mNil) = st at *
    generalize tb N f = t at *
    funext q
    simp [runD, env0, mSeq, mIfS, mNot, mB, mIsC, mVar, isC, mRet, mC, mTV, mAnd, mOr, mBin, mFld, dEqF, flV, retM, DL.bindM, mNx, mCall, lenM, mCons, mNil, mTup, mIsT, isT, mSet, mAsg, tgTup, tgCons, tgN, tgNil, mCallO, lenO, runO, mRetO, mLst, mIf, mUn, dNegI, mIsT2, mNoP, mPart, oListC, mDrop, mNever, hset, hw, e]
  have htl := ly_test (dl := .lst (tb N f)) (fd := rowsD rows) (rw := nl []) (bs := bs) (h := s) (v3 := .val (.int (s : Nat))) (by rw [k.len]; exact hs)
  have hsetl : mParOV 4 5 (mNew mNil) (mVar 3) [.val (.lst (tb N f)), .own (rowsD rows), .own (bl bs), .val (.int (s : Nat)), z4, z5] = retM (.nx, [.val (.lst (tb N f)), .own (rowsD rows), .own (bl bs), .val (.int (s : Nat)), .own (nl []), .val (.int (s : Nat))]) := by
    generalize tb N f = t at *
    funext q
    simp [runD, env0, mSeq, mIfS, mNot, mB, mIsC, mVar, isC, mRet, mC, mTV, mAnd, mOr, mBin, mFld, dEqF, flV, retM, DL.bindM, mNx, mCall, lenM, mCons, mNil, mTup, mIsT, isT, mSet, mAsg, tgTup, tgCons, tgN, tgNil, mCallO, lenO, runO, mRetO, mLst, mIf, mUn, dNegI, mIsT2, mNoP, mPart, oListC, mDrop, mNever, mParOV, mNew, nl]
  have hfinl : ∀ {x : SV} {bs' : List Bool} {row' : List Nat}, (mWhile lyC lyB) [.val (.lst (tb N f)), .own (rowsD rows), .own (bl bs), .val (.int (s : Nat)), .own (nl []), .val (.int (s : Nat))] = retM (.nx, [.val (.lst (tb N f)), .own (rowsD rows), .own (bl bs'), .val (.int (s : Nat)), .own (nl row'), x]) → ∃ w, lyO [.val (.lst (tb N f)), .own (rowsD rows), .own (bl bs), .val (.int (s : Nat)), z4, z5] = retM (.nx, [.val (.lst (tb N f)), .own (rowsD rows ++ if row' = [] then [] else [.lst (nl row')]), .own (bl bs'), .val (.int (s : Nat)), w, x]) := by
    intro x bs' row' hw
    obtain ⟨w, e⟩ := ly_end (dl := .val (.lst (tb N f))) (d2 := .own (bl bs')) (fd := rowsD rows) (row := row') (x := .val (.int (s : Nat))) (y := x) hrl
    refine ⟨w, ?_⟩
    unfold lyO
    generalize mFrz 4 (mExt 1 (mIf (mBorT 4 (mB (mBin (dEqU true) (mVar 4) (mLst (mNew mNil))))) (mLst (mNew (mCons (mVar 4) mNil))) (mLst (mNew mNil)))) = fz at *
    generalize mWhile lyC lyB = wh at *
    generalize mParOV 4 5 (mNew mNil) (mVar 3) = st at *
    generalize tb N f = t at *
    funext q
    simp [runD, env0, mSeq, mIfS, mNot, mB, mIsC, mVar, isC, mRet, mC, mTV, mAnd, mOr, mBin, mFld, dEqF, flV, retM, DL.bindM, mNx, mCall, lenM, mCons, mNil, mTup, mIsT, isT, mSet, mAsg, tgTup, tgCons, tgN, tgNil, mCallO, lenO, runO, mRetO, mLst, mIf, mUn, dNegI, mIsT2, mNoP, mPart, oListC, mDrop, mNever, hsetl, hw, e]
  rcases hsn : sn bs s with _ | _
  · have I := k.start hf hs hsn
    obtain ⟨bs', row', x, e, ez, o, hne, hm⟩ := cy_while hf hN (rowsD rows) (.val (.int (s : Nat))) 1999999 s [s] (bs.set s true) (by simp [runD, env0, mSeq, mIfS, mNot, mB, mIsC, mVar, isC, mRet, mC, mTV, mAnd, mOr, mBin, mFld, dEqF, flV, retM, DL.bindM, mNx, mCall, lenM, mCons, mNil, mTup, mIsT, isT, mSet, mAsg, tgTup, tgCons, tgN, tgNil, mCallO, lenO, runO, mRetO, mLst, mIf, mUn, dNegI, mIsT2, mNoP, mPart, oListC, mDrop, mNever]; omega) I
    have hb := cy_body (f := f) (fd := rowsD rows) (row := []) (bs := bs) (h := s) hN k.len hs (by simp [runD, env0, mSeq, mIfS, mNot, mB, mIsC, mVar, isC, mRet, mC, mTV, mAnd, mOr, mBin, mFld, dEqF, flV, retM, DL.bindM, mNx, mCall, lenM, mCons, mNil, mTup, mIsT, isT, mSet, mAsg, tgTup, tgCons, tgN, tgNil, mCallO, lenO, runO, mRetO, mLst, mIf, mUn, dNegI, mIsT2, mNoP, mPart, oListC, mDrop, mNever])
    have hbl := ly_body (f := f) (fd := rowsD rows) (row := []) (bs := bs) (h := s) (v3 := .val (.int (s : Nat))) hN k.len hs (by simp [runD, env0, mSeq, mIfS, mNot, mB, mIsC, mVar, isC, mRet, mC, mTV, mAnd, mOr, mBin, mFld, dEqF, flV, retM, DL.bindM, mNx, mCall, lenM, mCons, mNil, mTup, mIsT, isT, mSet, mAsg, tgTup, tgCons, tgN, tgNil, mCallO, lenO, runO, mRetO, mLst, mIf, mUn, dNegI, mIsT2, mNoP, mPart, oListC, mDrop, mNever])
    rw [hsn] at ht htl
    have hwl : (mWhile lyC lyB) [.val (.lst (tb N f)), .own (rowsD rows), .own (bl bs), .val (.int (s : Nat)), .own (nl []), .val (.int (s : Nat))] = retM (.nx, [.val (.lst (tb N f)), .own (rowsD rows), .own (bl bs'), .val (.int (s : Nat)), .own (nl row'), .val x]) := by
      show whileM lyC lyB (1999999 + 1) _ = _
      rw [while_go htl hbl]
      exact ez
    obtain ⟨wl, el⟩ := hfinl hwl
    rw [if_neg hne] at el
    have hw : (mWhile cyC cyB) [.val (.lst (tb N f)), .own (rowsD rows), .own (bl bs), .val (.int (s : Nat)), .own (nl [])] = retM (.nx, [.val (.lst (tb N f)), .own (rowsD rows), .own (bl bs'), .val x, .own (nl row')]) := by
      show whileM cyC cyB (1999999 + 1) _ = _
      rw [while_go ht hb]
      exact e
    obtain ⟨w, e2⟩ := hfin (y := .un) hw
    rw [if_neg hne] at e2
    have er : rowsD rows ++ [.lst (nl row')] = rowsD (rows ++ [row']) := by unfold rowsD; simp [runD, env0, mSeq, mIfS, mNot, mB, mIsC, mVar, isC, mRet, mC, mTV, mAnd, mOr, mBin, mFld, dEqF, flV, retM, DL.bindM, mNx, mCall, lenM, mCons, mNil, mTup, mIsT, isT, mSet, mAsg, tgTup, tgCons, tgN, tgNil, mCallO, lenO, runO, mRetO, mLst, mIf, mUn, dNegI, mIsT2, mNoP, mPart, oListC, mDrop, mNever]
    rw [er] at e2 el
    have hss : sn (bs.set s true) s = true := by rw [sn_set (by rw [k.len]; exact hs)]; exact add_self
    exact ⟨bs', rows ++ [row'], .val x, w, wl, _, e2, el, o, hm s hs hss, fun i hi h => hm i hi (by rw [sn_set (by rw [k.len]; exact hs)]; exact add_of h), by simp [runD, env0, mSeq, mIfS, mNot, mB, mIsC, mVar, isC, mRet, mC, mTV, mAnd, mOr, mBin, mFld, dEqF, flV, retM, DL.bindM, mNx, mCall, lenM, mCons, mNil, mTup, mIsT, isT, mSet, mAsg, tgTup, tgCons, tgN, tgNil, mCallO, lenO, runO, mRetO, mLst, mIf, mUn, dNegI, mIsT2, mNoP, mPart, oListC, mDrop, mNever]⟩
  · rw [hsn] at ht htl
    have hwl : (mWhile lyC lyB) [.val (.lst (tb N f)), .own (rowsD rows), .own (bl bs), .val (.int (s : Nat)), .own (nl []), .val (.int (s : Nat))] = retM (.nx, [.val (.lst (tb N f)), .own (rowsD rows), .own (bl bs), .val (.int (s : Nat)), .own (nl []), .val (.int (s : Nat))]) := by
      show whileM lyC lyB (1999999 + 1) _ = _
      exact while_stop htl
    obtain ⟨wl, el⟩ := hfinl hwl
    rw [if_pos rfl, List.append_nil] at el
    have hw : (mWhile cyC cyB) [.val (.lst (tb N f)), .own (rowsD rows), .own (bl bs), .val (.int (s : Nat)), .own (nl [])] = retM (.nx, [.val (.lst (tb N f)), .own (rowsD rows), .own (bl bs), .val (.int (s : Nat)), .own (nl [])]) := by
      show whileM cyC cyB (1999999 + 1) _ = _
      exact while_stop ht
    obtain ⟨w, e2⟩ := hfin (y := .un) hw
    rw [if_pos rfl, List.append_nil] at e2
    exact ⟨bs, rows, _, w, wl, _, e2, el, k, hsn, fun _ _ h => h, by omega⟩
theorem cy_loop {N : Nat} {f : Nat → Nat} (hf : Pm N f) (hN : N ≤ 1000) : ∀ (ss : List Nat) (rows : List (List Nat)) (bs : List Bool) (w3 w4 z3 z4 z5 : SV), (∀ s ∈ ss, s < N) → Pa.Out N f bs rows → rows.length + ss.length ≤ 1000 → ∃ bs' rows' w5 w6 u3 u4 u5, loopM (mTg (tgN 3) cyO) (nl ss) [.val (.lst (tb N f)), .own (rowsD rows), .own (bl bs), w3, w4] = retM (.nx, [.val (.lst (tb N f)), .own (rowsD rows'), .own (bl bs'), w5, w6]) ∧ loopM (mTg (tgN 3) lyO) (nl ss) [.val (.lst (tb N f)), .own (rowsD rows), .own (bl bs), z3, z4, z5] = retM (.nx, [.val (.lst (tb N f)), .own (rowsD rows'), .own (bl bs'), u3, u4, u5]) ∧ Pa.Out N f bs' rows' ∧ (∀ s ∈ ss, sn bs' s = true) ∧ (∀ i, i < N → sn bs i = true → sn bs' i = true)
  | [], rows, bs, w3, w4, z3, z4, z5, _, k, _ => ⟨bs, rows, w3, w4, z3, z4, z5, rfl, rfl, k, (fun _ h => nomatch h), fun _ _ h => h⟩
  | s :: ss, rows, bs, w3, w4, z3, z4, z5, hs, k, hl => by
    rw [List.length_cons] at hl
    have hsN := hs s List.mem_cons_self
    obtain ⟨bs1, rows1, x3, x4, y4, y5, e1, l1, k1, hs1, hm1, hl1⟩ := cy_round hf hN hsN k (by omega) w4 z4 z5
    obtain ⟨bs2, rows2, x5, x6, y6, y7, y8, e2, l2, k2, hs2, hm2⟩ := cy_loop hf hN ss rows1 bs1 x3 x4 (.val (.int (s : Nat))) y4 y5 (fun s' h => hs s' (List.mem_cons_of_mem _ h)) k1 (by omega)
    refine ⟨bs2, rows2, x5, x6, y6, y7, y8, ?_, ?_, k2, fun s' h => ?_, fun i hi h => hm2 i hi (hm1 i hi h)⟩
    · rw [← e2]
      have en : nl (s :: ss) = .int (s : Nat) :: nl ss := rfl
      rw [en]
      generalize cyO = body at *
      generalize tb N f = t at *
      funext q
      conv => lhs; unfold loopM
      simp [runD, env0, mSeq, mIfS, mNot, mB, mIsC, mVar, isC, mRet, mC, mTV, mAnd, mOr, mBin, mFld, dEqF, flV, retM, DL.bindM, mNx, mCall, lenM, mCons, mNil, mTup, mIsT, isT, mSet, mAsg, tgTup, tgCons, tgN, tgNil, mCallO, lenO, runO, mRetO, mLst, mIf, mUn, dNegI, mIsT2, mNoP, mPart, oListC, mDrop, mNever, mTg, e1]
    · rw [← l2]
      have en : nl (s :: ss) = .int (s : Nat) :: nl ss := rfl
      rw [en]
      generalize lyO = body at *
      generalize tb N f = t at *
      funext q
      conv => lhs; unfold loopM
      simp [runD, env0, mSeq, mIfS, mNot, mB, mIsC, mVar, isC, mRet, mC, mTV, mAnd, mOr, mBin, mFld, dEqF, flV, retM, DL.bindM, mNx, mCall, lenM, mCons, mNil, mTup, mIsT, isT, mSet, mAsg, tgTup, tgCons, tgN, tgNil, mCallO, lenO, runO, mRetO, mLst, mIf, mUn, dNegI, mIsT2, mNoP, mPart, oListC, mDrop, mNever, mTg, l1]
    · rcases List.mem_cons.mp h with rfl | h
      · exact hm2 s' hsN hs1
      · exact hs2 s' h
theorem rg_nl {e : Env' → Mo D} {env : Env'} {n : Nat} (h : e env = retM (.int (n : Nat))) (hn : n ≤ 1000) : srcR1 (mCons e mNil) env = retM (nl (List.range n)) := by
  have h1 : (-1000000 : Int) ≤ (n : Int) := by omega
  have h2 : (n : Int) ≤ 1000000 := by omega
  have e2 : rngD 0 n = nl (List.range n) := by
    unfold rngD nl
    exact List.map_congr_left fun i _ => by rw [Int.zero_add]
  funext q
  simp [runD, env0, mSeq, mIfS, mNot, mB, mIsC, mVar, isC, mRet, mC, mTV, mAnd, mOr, mBin, mFld, dEqF, flV, retM, DL.bindM, mNx, mCall, lenM, mCons, mNil, mTup, mIsT, isT, mSet, mAsg, tgTup, tgCons, tgN, tgNil, mCallO, lenO, runO, mRetO, mLst, mIf, mUn, dNegI, mIsT2, mNoP, mPart, oListC, mDrop, mNever, srcR1, h, h1, h2, e2]
theorem rep_bl (n : Nat) : repD [D.bl false] n = bl (List.replicate n false) := by
  unfold bl
  rw [List.map_replicate]
  unfold repD
  induction n with
  | zero => rfl
  | succ n ih => rw [List.replicate_succ, List.flatten_cons, ih, List.replicate_succ]; rfl
theorem cycles_eq {N : Nat} {f : Nat → Nat} (hf : Pm N f) (hN : N ≤ 500) : ∃ rows, o_cycles_of [.lst (tb N f)] = retM (rowsD rows) ∧ o__law_rounds [.lst (tb N f)] = retM (rowsD rows) ∧ Cyc N f rows := by
  obtain ⟨bs, rows, w5, w6, u3, u4, u5, e, el, k, hs, _⟩ := cy_loop hf (by omega) (List.range N) [] (List.replicate N false) .un .un .un .un .un (fun s h => List.mem_range.mp h) Out.none (by simp [runD, env0, mSeq, mIfS, mNot, mB, mIsC, mVar, isC, mRet, mC, mTV, mAnd, mOr, mBin, mFld, dEqF, flV, retM, DL.bindM, mNx, mCall, lenM, mCons, mNil, mTup, mIsT, isT, mSet, mAsg, tgTup, tgCons, tgN, tgNil, mCallO, lenO, runO, mRetO, mLst, mIf, mUn, dNegI, mIsT2, mNoP, mPart, oListC, mDrop, mNever]; omega)
  have hall := k.all fun i hi => hs i (List.mem_range.mpr hi)
  refine ⟨rows, ?_, ?_, hall⟩
  · have hm : m_cycles_of = mSeq (mParOO 1 2 (mNew mNil) (oRep (mLst (mNew (mCons (mC (.bl false)) mNil))) (mCall cLen (mCons (mVar 0) mNil)))) (mSeq (mFor (srcR1 (mCons (mCall cLen (mCons (mVar 0) mNil)) mNil)) (tgN 3) cyO) (mRetX 1)) := rfl
    have hlen : (tb N f).length = N := tb_len
    have hsrc : srcR1 (mCons (mCall cLen (mCons (mVar 0) mNil)) mNil) [.val (.lst (tb N f)), .own (rowsD []), .own (bl (List.replicate N false)), .un, .un] = retM (nl (List.range N)) := rg_nl (by funext q; simp [runD, env0, mSeq, mIfS, mNot, mB, mIsC, mVar, isC, mRet, mC, mTV, mAnd, mOr, mBin, mFld, dEqF, flV, retM, DL.bindM, mNx, mCall, lenM, mCons, mNil, mTup, mIsT, isT, mSet, mAsg, tgTup, tgCons, tgN, tgNil, mCallO, lenO, runO, mRetO, mLst, mIf, mUn, dNegI, mIsT2, mNoP, mPart, oListC, mDrop, mNever, cLen, hlen]) (by omega)
    have hrep : oRep (mLst (mNew (mCons (mC (.bl false)) mNil))) (mCall cLen (mCons (mVar 0) mNil)) [.val (.lst (tb N f)), .un, .un, .un, .un] = retM (bl (List.replicate N false)) := by
      have h1 : (N : Int) ≤ 100000 := by omega
      have h2 : (-100000 : Int) ≤ (N : Int) := by omega
      have h3 : N ≤ 100000 := by omega
      have h4 := rep_bl N
      generalize tb N f = t at *
      funext q
      simp [runD, env0, mSeq, mIfS, mNot, mB, mIsC, mVar, isC, mRet, mC, mTV, mAnd, mOr, mBin, mFld, dEqF, flV, retM, DL.bindM, mNx, mCall, lenM, mCons, mNil, mTup, mIsT, isT, mSet, mAsg, tgTup, tgCons, tgN, tgNil, mCallO, lenO, runO, mRetO, mLst, mIf, mUn, dNegI, mIsT2, mNoP, mPart, oListC, mDrop, mNever, oRep, mNew, cLen, hlen, h1, h2, h3, h4]
    have hpar : mParOO 1 2 (mNew mNil) (oRep (mLst (mNew (mCons (mC (.bl false)) mNil))) (mCall cLen (mCons (mVar 0) mNil))) [.val (.lst (tb N f)), .un, .un, .un, .un] = retM (.nx, [.val (.lst (tb N f)), .own (rowsD []), .own (bl (List.replicate N false)), .un, .un]) := by
      generalize oRep (mLst (mNew (mCons (mC (.bl false)) mNil))) (mCall cLen (mCons (mVar 0) mNil)) = rp at *
      generalize tb N f = t at *
      funext q
      simp [runD, env0, mSeq, mIfS, mNot, mB, mIsC, mVar, isC, mRet, mC, mTV, mAnd, mOr, mBin, mFld, dEqF, flV, retM, DL.bindM, mNx, mCall, lenM, mCons, mNil, mTup, mIsT, isT, mSet, mAsg, tgTup, tgCons, tgN, tgNil, mCallO, lenO, runO, mRetO, mLst, mIf, mUn, dNegI, mIsT2, mNoP, mPart, oListC, mDrop, mNever, mParOO, mNew, hrep, rowsD]
    generalize mParOO 1 2 (mNew mNil) (oRep (mLst (mNew (mCons (mC (.bl false)) mNil))) (mCall cLen (mCons (mVar 0) mNil))) = pr at *
    generalize srcR1 (mCons (mCall cLen (mCons (mVar 0) mNil)) mNil) = sr at *
    generalize cyO = body at *
    generalize tb N f = t at *
    funext q
    simp [runD, env0, mSeq, mIfS, mNot, mB, mIsC, mVar, isC, mRet, mC, mTV, mAnd, mOr, mBin, mFld, dEqF, flV, retM, DL.bindM, mNx, mCall, lenM, mCons, mNil, mTup, mIsT, isT, mSet, mAsg, tgTup, tgCons, tgN, tgNil, mCallO, lenO, runO, mRetO, mLst, mIf, mUn, dNegI, mIsT2, mNoP, mPart, oListC, mDrop, mNever, o_cycles_of, hm, hpar, mFor, hsrc, e, mRetX]
  · have hm : m__law_rounds = mSeq (mParOO 1 2 (mNew mNil) (oRep (mLst (mNew (mCons (mC (.bl false)) mNil))) (mCall cLen (mCons (mVar 0) mNil)))) (mSeq (mFor (srcR1 (mCons (mCall cLen (mCons (mVar 0) mNil)) mNil)) (tgN 3) lyO) (mRetX 1)) := rfl
    have hlen : (tb N f).length = N := tb_len
    have hsrc : srcR1 (mCons (mCall cLen (mCons (mVar 0) mNil)) mNil) [.val (.lst (tb N f)), .own (rowsD []), .own (bl (List.replicate N false)), .un, .un, .un] = retM (nl (List.range N)) := rg_nl (by funext q; simp [runD, env0, mSeq, mIfS, mNot, mB, mIsC, mVar, isC, mRet, mC, mTV, mAnd, mOr, mBin, mFld, dEqF, flV, retM, DL.bindM, mNx, mCall, lenM, mCons, mNil, mTup, mIsT, isT, mSet, mAsg, tgTup, tgCons, tgN, tgNil, mCallO, lenO, runO, mRetO, mLst, mIf, mUn, dNegI, mIsT2, mNoP, mPart, oListC, mDrop, mNever, cLen, hlen]) (by omega)
    have hrep : oRep (mLst (mNew (mCons (mC (.bl false)) mNil))) (mCall cLen (mCons (mVar 0) mNil)) [.val (.lst (tb N f)), .un, .un, .un, .un, .un] = retM (bl (List.replicate N false)) := by
      have h1 : (N : Int) ≤ 100000 := by omega
      have h2 : (-100000 : Int) ≤ (N : Int) := by omega
      have h3 : N ≤ 100000 := by omega
      have h4 := rep_bl N
      generalize tb N f = t at *
      funext q
      simp [runD, env0, mSeq, mIfS, mNot, mB, mIsC, mVar, isC, mRet, mC, mTV, mAnd, mOr, mBin, mFld, dEqF, flV, retM, DL.bindM, mNx, mCall, lenM, mCons, mNil, mTup, mIsT, isT, mSet, mAsg, tgTup, tgCons, tgN, tgNil, mCallO, lenO, runO, mRetO, mLst, mIf, mUn, dNegI, mIsT2, mNoP, mPart, oListC, mDrop, mNever, oRep, mNew, cLen, hlen, h1, h2, h3, h4]
    have hpar : mParOO 1 2 (mNew mNil) (oRep (mLst (mNew (mCons (mC (.bl false)) mNil))) (mCall cLen (mCons (mVar 0) mNil))) [.val (.lst (tb N f)), .un, .un, .un, .un, .un] = retM (.nx, [.val (.lst (tb N f)), .own (rowsD []), .own (bl (List.replicate N false)), .un, .un, .un]) := by
      generalize oRep (mLst (mNew (mCons (mC (.bl false)) mNil))) (mCall cLen (mCons (mVar 0) mNil)) = rp at *
      generalize tb N f = t at *
      funext q
      simp [runD, env0, mSeq, mIfS, mNot, mB, mIsC, mVar, isC, mRet, mC, mTV, mAnd, mOr, mBin, mFld, dEqF, flV, retM, DL.bindM, mNx, mCall, lenM, mCons, mNil, mTup, mIsT, isT, mSet, mAsg, tgTup, tgCons, tgN, tgNil, mCallO, lenO, runO, mRetO, mLst, mIf, mUn, dNegI, mIsT2, mNoP, mPart, oListC, mDrop, mNever, mParOO, mNew, hrep, rowsD]
    generalize mParOO 1 2 (mNew mNil) (oRep (mLst (mNew (mCons (mC (.bl false)) mNil))) (mCall cLen (mCons (mVar 0) mNil))) = pr at *
    generalize srcR1 (mCons (mCall cLen (mCons (mVar 0) mNil)) mNil) = sr at *
    generalize lyO = body at *
    generalize tb N f = t at *
    funext q
    simp [runD, env0, mSeq, mIfS, mNot, mB, mIsC, mVar, isC, mRet, mC, mTV, mAnd, mOr, mBin, mFld, dEqF, flV, retM, DL.bindM, mNx, mCall, lenM, mCons, mNil, mTup, mIsT, isT, mSet, mAsg, tgTup, tgCons, tgN, tgNil, mCallO, lenO, runO, mRetO, mLst, mIf, mUn, dNegI, mIsT2, mNoP, mPart, oListC, mDrop, mNever, o__law_rounds, hm, hpar, mFor, hsrc, el, mRetX]
theorem even_eq {N : Nat} {f : Nat → Nat} (hf : Pm N f) (hN : N ≤ 500) : d_is_even_of [.lst (tb N f)] = retM (.bl (!(sg N f))) := by
  obtain ⟨rows, e, _, c⟩ := cycles_eq hf hN
  have hlen : (tb N f).length = N := tb_len
  have hrl : (rowsD rows).length = rows.length := by unfold rowsD; simp [runD, env0, mSeq, mIfS, mNot, mB, mIsC, mVar, isC, mRet, mC, mTV, mAnd, mOr, mBin, mFld, dEqF, flV, retM, DL.bindM, mNx, mCall, lenM, mCons, mNil, mTup, mIsT, isT, mSet, mAsg, tgTup, tgCons, tgN, tgNil, mCallO, lenO, runO, mRetO, mLst, mIf, mUn, dNegI, mIsT2, mNoP, mPart, oListC, mDrop, mNever]
  have hle := c.le
  have hp := c.pa
  rw [hp]
  have e1 : ((N : Int) - (rows.length : Int)) % 2 = 0 ↔ ¬ (N + rows.length) % 2 = 1 := by omega
  generalize tb N f = t at *
  generalize rowsD rows = rd at *
  have e3 : decide (((N : Int) - (rows.length : Int)) % 2 = 0) = !(decide ((N + rows.length) % 2 = 1)) := by
    by_cases z : (N + rows.length) % 2 = 1
    · rw [decide_eq_true z, decide_eq_false (fun y => e1.mp y z)]; rfl
    · rw [decide_eq_false z, decide_eq_true (e1.mpr z)]; rfl
  rw [← e3]
  funext q
  simp [runD, env0, mSeq, mIfS, mNot, mB, mIsC, mVar, isC, mRet, mC, mTV, mAnd, mOr, mBin, mFld, dEqF, flV, retM, DL.bindM, mNx, mCall, lenM, mCons, mNil, mTup, mIsT, isT, mSet, mAsg, tgTup, tgCons, tgN, tgNil, mCallO, lenO, runO, mRetO, mLst, mIf, mUn, dNegI, mIsT2, mNoP, mPart, oListC, mDrop, mNever, d_is_even_of, m_is_even_of, cLen, hlen, e, hrl, dSubI, dII, cInt, dModI, L2.scal]
end Q
end

section
set_option Elab.async false
set_option linter.all false
set_option maxRecDepth 100000
set_option maxHeartbeats 4000000
set_option exponentiation.threshold 20000
/-! k47: tables one behind the other. -/
namespace Q
open DL PySem PyProof.Rows Pa
def tbI (N : Nat) (f : Nat → Nat) : List Int := (List.range N).map fun i => ((f i : Nat) : Int)
theorem tb_eq (N : Nat) (f : Nat → Nat) : tb N f = (tbI N f).map .int := by
  unfold tb tbI
  rw [List.map_map]
  rfl
theorem tbI_id (N : Nat) : tbI N (fun i => i) = rngI N := rfl
theorem tb_id (N : Nat) : tb N (fun i => i) = (rngI N).map .int := by rw [tb_eq, tbI_id]
theorem tbI_inj {N : Nat} {f g : Nat → Nat} : tbI N f = tbI N g ↔ ∀ i, i < N → f i = g i := by
  constructor
  · intro h i hi
    have h1 : (tbI N f)[i]? = (tbI N g)[i]? := by rw [h]
    unfold tbI at h1
    rw [List.getElem?_map, List.getElem?_map, List.getElem?_range hi] at h1
    have h2 : ((f i : Nat) : Int) = (g i : Nat) := by simpa [runD, env0, mSeq, mIfS, mNot, mB, mIsC, mVar, isC, mRet, mC, mTV, mAnd, mOr, mBin, mFld, dEqF, flV, retM, DL.bindM, mNx, mCall, lenM, mCons, mNil, mTup, mIsT, isT, mSet, mAsg, tgTup, tgCons, tgN, tgNil, mCallO, lenO, runO, mRetO, mLst, mIf, mUn, dNegI, mIsT2, mNoP, mPart, oListC, mDrop, mNever] using h1
    omega
  · intro h
    unfold tbI
    exact List.map_congr_left fun i hi => by rw [h i (List.mem_range.mp hi)]
theorem eq_tb (ne : Bool) (N : Nat) (f g : Nat → Nat) [Decidable (∀ i, i < N → f i = g i)] : dEqU ne (.lst (tb N f)) (.lst (tb N g)) = retM (.bl (decide (∀ i, i < N → f i = g i) != ne)) := by
  rw [tb_eq, tb_eq, eq_ints]
  congr 3
  exact decide_eq_decide.mpr tbI_inj
theorem comp_filter {α : Type} {i : Nat} {t : Env' → Mo Bool} {e : Env' → Mo D} {env : Env'} {F : α → D} {g : α → Bool} {G : α → D} : ∀ {l : List α}, (∀ j ∈ l, t (env.set i (.val (F j))) = retM (g j)) → (∀ j ∈ l, g j = true → e (env.set i (.val (F j))) = retM (G j)) → compM (tgN i) t e env (l.map F) = retM ((l.filter g).map G)
  | [], _, _ => rfl
  | d :: ds, h1, h2 => by
    have ih := comp_filter (i := i) (t := t) (e := e) (env := env) (F := F) (g := g) (G := G) (l := ds) (fun j hj => h1 j (List.mem_cons_of_mem _ hj)) (fun j hj => h2 j (List.mem_cons_of_mem _ hj))
    rw [List.map_cons]
    unfold compM
    show DL.bindM (t (env.set i (.val (F d)))) _ = _
    rw [h1 d List.mem_cons_self, bindM_ret]
    cases hg : g d with
    | true =>
      rw [if_pos rfl, h2 d List.mem_cons_self hg, bindM_ret, ih, bindM_ret, List.filter_cons_of_pos hg, List.map_cons]
    | false =>
      rw [if_neg (by decide), ih, List.filter_cons_of_neg (by rw [hg]; exact fun z => nomatch z)]
theorem behind_tb {N : Nat} {f g : Nat → Nat} (hN : N ≤ 1000) (hg : ∀ i, i < N → g i < N) : o_behind_table [.lst (tb N f), .lst (tb N g)] = retM (tb N fun i => f (g i)) := by
  have hc : compM (tgN 2) mYes (mBin atD (mVar 0) (mVar 2)) [.val (.lst (tb N f)), .val (.lst (tb N g)), .un] ((List.range N).map fun i => D.int (g i : Nat)) = retM ((List.range N).map fun i => .int (f (g i) : Nat)) := comp_map fun i hi => by
    have h1 := at_tb (f := f) (hg i (List.mem_range.mp hi))
    generalize tb N f = t at *
    funext s
    simp [runD, env0, mSeq, mIfS, mNot, mB, mIsC, mVar, isC, mRet, mC, mTV, mAnd, mOr, mBin, mFld, dEqF, flV, retM, DL.bindM, mNx, mCall, lenM, mCons, mNil, mTup, mIsT, isT, mSet, mAsg, tgTup, tgCons, tgN, tgNil, mCallO, lenO, runO, mRetO, mLst, mIf, mUn, dNegI, mIsT2, mNoP, mPart, oListC, mDrop, mNever, h1]
  have hl : (tb N g).length ≤ 100000 := by rw [tb_len]; omega
  have hm : m_behind_table = mRetO (mLc (srcL (mVar 1)) [2] (tgN 2) mYes (mBin atD (mVar 0) (mVar 2))) := rfl
  have e1 : ((List.range N).map fun i => D.int (g i : Nat)) = tb N g := rfl
  have e2 : ((List.range N).map fun i => D.int (f (g i) : Nat)) = tb N (fun i => f (g i)) := rfl
  rw [e1, e2] at hc
  generalize tb N (fun i => f (g i)) = tfg at *
  generalize tb N f = tf at *
  generalize tb N g = tg at *
  generalize mBin atD (mVar 0) (mVar 2) = el at *
  funext s
  simp [runD, env0, mSeq, mIfS, mNot, mB, mIsC, mVar, isC, mRet, mC, mTV, mAnd, mOr, mBin, mFld, dEqF, flV, retM, DL.bindM, mNx, mCall, lenM, mCons, mNil, mTup, mIsT, isT, mSet, mAsg, tgTup, tgCons, tgN, tgNil, mCallO, lenO, runO, mRetO, mLst, mIf, mUn, dNegI, mIsT2, mNoP, mPart, oListC, mDrop, mNever, o_behind_table, hm, mLc, srcL, hl, wipeE, hc]
def fup (f : Nat → Nat) (i v j : Nat) : Nat := if j = i then v else f j
theorem tb_set {N : Nat} {f : Nat → Nat} {i v : Nat} : (tb N f).set i (.int (v : Nat)) = tb N (fup f i v) := by
  refine List.ext_getElem? fun j => ?_
  by_cases hj : j < N
  · by_cases hij : i = j
    · subst hij
      rw [List.getElem?_set_self (by rw [tb_len]; exact hj), tb_get hj]
      unfold fup
      rw [if_pos rfl]
    · rw [List.getElem?_set_ne hij, tb_get hj, tb_get hj]
      unfold fup
      rw [if_neg (fun z => hij z.symm)]
  · rw [List.getElem?_eq_none (by rw [List.length_set, tb_len]; omega), List.getElem?_eq_none (by rw [tb_len]; omega)]
theorem al0 {a : D} {l : List D} : atD (.lst (a :: l)) (.int 0) = retM a := at_lst (i := 0) rfl
theorem al1 {a b : D} {l : List D} : atD (.lst (a :: b :: l)) (.int 1) = retM b := at_lst (i := 1) rfl
theorem al2 {a b c : D} {l : List D} : atD (.lst (a :: b :: c :: l)) (.int 2) = retM c := at_lst (i := 2) rfl
theorem at3_0 (a b c : D) : atD (.tup [a, b, c]) (.int 0) = retM a := rfl
theorem at3_1 (a b c : D) : atD (.tup [a, b, c]) (.int 1) = retM b := rfl
theorem at3_2 (a b c : D) : atD (.tup [a, b, c]) (.int 2) = retM c := rfl
end Q
end

section
set_option Elab.async false
set_option linter.all false
set_option maxRecDepth 100000
set_option maxHeartbeats 4000000
set_option exponentiation.threshold 20000
/-! k47: undone. -/
namespace Q
open DL PySem PyProof.Rows Pa
variable {p : Nat}
theorem rep_int (n : Nat) : repD [D.int 0] n = (List.replicate n (0 : Int)).map .int := by
  unfold repD
  induction n with
  | zero => rfl
  | succ n ih => rw [List.replicate_succ, List.flatten_cons, ih, List.replicate_succ]; rfl
theorem Pm.onto {N : Nat} {f : Nat → Nat} (hf : Pm N f) {x : Nat} (hx : x < N) : ∃ j, j < N ∧ f j = x := by
  have hp : ((List.range N).map f).Perm (List.range N) := by
    refine nodup_perm _ _ ?_ (fun y hy => ?_) (by simp [runD, env0, mSeq, mIfS, mNot, mB, mIsC, mVar, isC, mRet, mC, mTV, mAnd, mOr, mBin, mFld, dEqF, flV, retM, DL.bindM, mNx, mCall, lenM, mCons, mNil, mTup, mIsT, isT, mSet, mAsg, tgTup, tgCons, tgN, tgNil, mCallO, lenO, runO, mRetO, mLst, mIf, mUn, dNegI, mIsT2, mNoP, mPart, oListC, mDrop, mNever])
    · refine List.pairwise_map.mpr (List.nodup_range.imp_of_mem fun {a b} ha hb hne e => hne ?_)
      exact hf.inj a b (List.mem_range.mp ha) (List.mem_range.mp hb) e
    · obtain ⟨j, hj, rfl⟩ := List.mem_map.mp hy
      exact List.mem_range.mpr (hf.lt j (List.mem_range.mp hj))
  obtain ⟨j, hj, e⟩ := List.mem_map.mp (hp.mem_iff.mpr (List.mem_range.mpr hx))
  exact ⟨j, List.mem_range.mp hj, e⟩
/-- what undoes f -/
structure Inv' (N : Nat) (f g : Nat → Nat) : Prop where
  l : ∀ i, i < N → g (f i) = i
theorem Inv'.r {N : Nat} {f g : Nat → Nat} (hf : Pm N f) (h : Inv' N f g) : ∀ i, i < N → f (g i) = i := fun i hi => by
  obtain ⟨j, hj, rfl⟩ := Pm.onto hf hi
  rw [h.l j hj]
theorem Inv'.pm {N : Nat} {f g : Nat → Nat} (hf : Pm N f) (h : Inv' N f g) : Pm N g := by
  refine ⟨fun i hi => ?_, fun i j hi hj e => ?_⟩
  · obtain ⟨j, hj, rfl⟩ := Pm.onto hf hi
    rw [h.l j hj]; exact hj
  · rw [← h.r hf i hi, ← h.r hf j hj, e]
theorem enum_tb {N : Nat} {f : Nat → Nat} : ∀ (k : Nat) (l : List Nat), (∀ i, l[i]? = if i < N - k then some (k + i) else none) → enumD k (l.map fun i => D.int (f i : Nat)) = l.map fun i => D.tup [.int (i : Nat), .int (f i : Nat)]
  | k, [], h => rfl
  | k, i :: l, h => by
    have h0 := h 0
    have hk : 0 < N - k := by
      by_cases z : 0 < N - k
      · exact z
      · rw [if_neg z] at h0; cases h0
    rw [if_pos hk] at h0
    have hi : i = k := by simpa [runD, env0, mSeq, mIfS, mNot, mB, mIsC, mVar, isC, mRet, mC, mTV, mAnd, mOr, mBin, mFld, dEqF, flV, retM, DL.bindM, mNx, mCall, lenM, mCons, mNil, mTup, mIsT, isT, mSet, mAsg, tgTup, tgCons, tgN, tgNil, mCallO, lenO, runO, mRetO, mLst, mIf, mUn, dNegI, mIsT2, mNoP, mPart, oListC, mDrop, mNever] using h0
    subst hi
    rw [List.map_cons, List.map_cons]
    unfold enumD
    rw [enum_tb (N := N) (f := f) (i + 1) l fun j => by
      have := h (j + 1)
      rw [List.getElem?_cons_succ] at this
      rw [this]
      by_cases z : j + 1 < N - i
      · rw [if_pos z, if_pos (by omega)]; congr 1; omega
      · rw [if_neg z, if_neg (by omega)]]
theorem enum_tb0 {N : Nat} {f : Nat → Nat} : enumD 0 (tb N f) = (List.range N).map fun i => D.tup [.int (i : Nat), .int (f i : Nat)] := by
  unfold tb
  refine enum_tb (N := N) 0 _ fun i => ?_
  by_cases h : i < N
  · rw [List.getElem?_range h, if_pos (by omega), Nat.zero_add]
  · rw [List.getElem?_eq_none (by rw [List.length_range]; omega), if_neg (by omega)]
theorem und_loop {N : Nat} {f : Nat → Nat} (hf : Pm N f) (v0 : SV) : ∀ (l done : List Nat) (h : Nat → Nat) (v2 v3 : SV), (∀ i ∈ l, i < N) → (∀ i ∈ done, i < N) → (∀ i ∈ done, h (f i) = i) → (∀ i ∈ l, i ∉ done) → l.Nodup →
    ∃ (g : Nat → Nat) (w2 w3 : SV), loopM (mTg (tgTup 2 (tgCons (tgN 2) (tgCons (tgN 3) tgNil))) (mSetIx 1 (mVar 2) (mVar 3))) (l.map fun i => D.tup [.int (i : Nat), .int (f i : Nat)]) [v0, .own (tb N h), v2, v3] = retM (.nx, [v0, .own (tb N g), w2, w3]) ∧ ∀ i, i ∈ done ∨ i ∈ l → g (f i) = i
  | [], done, h, v2, v3, _, _, hd, _, _ => ⟨h, v2, v3, rfl, fun i hi => hi.elim (hd i) (fun z => nomatch z)⟩
  | a :: l, done, h, v2, v3, hl, hdl, hd, hnd, hn => by
    rw [List.nodup_cons] at hn
    have ha := hl a List.mem_cons_self
    have hdone : ∀ i ∈ done ++ [a], fup h (f a) a (f i) = i := fun i hi => by
      unfold fup
      rcases List.mem_append.mp hi with h1 | h1
      · by_cases z : f i = f a
        · have e1 := hf.inj i a (hdl i h1) ha z
          rw [e1] at h1
          exact absurd h1 (hnd a List.mem_cons_self)
        · rw [if_neg z]; exact hd i h1
      · rw [List.mem_singleton] at h1
        rw [h1, if_pos rfl]
    obtain ⟨g, w2, w3, e, hg⟩ := und_loop hf v0 l (done ++ [a]) (fup h (f a) a) (.val (.int (a : Nat))) (.val (.int (f a : Nat))) (fun i hi => hl i (List.mem_cons_of_mem _ hi)) (fun i hi => by
      rcases List.mem_append.mp hi with hi | hi
      · exact hdl i hi
      · rw [List.mem_singleton] at hi; rw [hi]; exact ha) hdone (fun i hi z => by
      rcases List.mem_append.mp z with z | z
      · exact hnd i (List.mem_cons_of_mem _ hi) z
      · rw [List.mem_singleton] at z
        subst z
        exact hn.1 hi) hn.2
    refine ⟨g, w2, w3, ?_, fun i hi => hg i ?_⟩
    · rw [← e, List.map_cons]
      have hx : L2.ixN (tb N h).length ((f a : Nat) : Int) = some (f a) := ixN_nat (by rw [tb_len]; exact hf.lt a ha)
      have hs : (tb N h).set (f a) (.int (a : Nat)) = tb N (fup h (f a) a) := tb_set
      generalize tb N (fup h (f a) a) = t2 at *
      generalize tb N h = t at *
      funext q
      conv => lhs; unfold loopM
      simp [runD, env0, mSeq, mIfS, mNot, mB, mIsC, mVar, isC, mRet, mC, mTV, mAnd, mOr, mBin, mFld, dEqF, flV, retM, DL.bindM, mNx, mCall, lenM, mCons, mNil, mTup, mIsT, isT, mSet, mAsg, tgTup, tgCons, tgN, tgNil, mCallO, lenO, runO, mRetO, mLst, mIf, mUn, dNegI, mIsT2, mNoP, mPart, oListC, mDrop, mNever, mTg, mSetIx, hx, hs]
    · rcases hi with hi | hi
      · exact .inl (List.mem_append.mpr (.inl hi))
      · rcases List.mem_cons.mp hi with rfl | hi
        · exact .inl (List.mem_append.mpr (.inr (by simp [runD, env0, mSeq, mIfS, mNot, mB, mIsC, mVar, isC, mRet, mC, mTV, mAnd, mOr, mBin, mFld, dEqF, flV, retM, DL.bindM, mNx, mCall, lenM, mCons, mNil, mTup, mIsT, isT, mSet, mAsg, tgTup, tgCons, tgN, tgNil, mCallO, lenO, runO, mRetO, mLst, mIf, mUn, dNegI, mIsT2, mNoP, mPart, oListC, mDrop, mNever])))
        · exact .inr hi
theorem undone_eq {N : Nat} {f : Nat → Nat} (hN : N ≤ 1000) (hf : Pm N f) : ∃ g, o_undone_of [.lst (tb N f)] = retM (tb N g) ∧ Inv' N f g := by
  obtain ⟨g, w2, w3, e, hg⟩ := und_loop hf (.val (.lst (tb N f))) (List.range N) [] (fun _ => 0) .un .un (fun i hi => List.mem_range.mp hi) (fun _ h => nomatch h) (fun _ h => nomatch h) (fun _ _ h => nomatch h) List.nodup_range
  refine ⟨g, ?_, ⟨fun i hi => hg i (.inr (List.mem_range.mpr hi))⟩⟩
  have hr : oRep (mLst (mNew (mCons (mC (.int 0)) mNil))) (mCall cLen (mCons (mVar 0) mNil)) [.val (.lst (tb N f)), .un, .un, .un] = retM (tb N fun _ => 0) := by
    have h0 : (tb N f).length = N := tb_len
    have h1 : (N : Int) ≤ 100000 := by omega
    have h2 : (-100000 : Int) ≤ (N : Int) := by omega
    have h3 : N ≤ 100000 := by omega
    have h9 := rep_int N
    have h8 : (List.replicate N (0 : Int)).map D.int = tb N fun _ => 0 := by
      unfold tb
      rw [List.map_replicate]
      refine List.ext_getElem? fun i => ?_
      rw [List.getElem?_replicate, List.getElem?_map]
      by_cases hi : i < N
      · rw [if_pos hi, List.getElem?_range hi]; rfl
      · rw [if_neg hi, List.getElem?_eq_none (by rw [List.length_range]; omega)]; rfl
    rw [h8] at h9
    generalize tb N (fun _ => 0) = t0 at *
    generalize tb N f = t at *
    funext q
    simp [runD, env0, mSeq, mIfS, mNot, mB, mIsC, mVar, isC, mRet, mC, mTV, mAnd, mOr, mBin, mFld, dEqF, flV, retM, DL.bindM, mNx, mCall, lenM, mCons, mNil, mTup, mIsT, isT, mSet, mAsg, tgTup, tgCons, tgN, tgNil, mCallO, lenO, runO, mRetO, mLst, mIf, mUn, dNegI, mIsT2, mNoP, mPart, oListC, mDrop, mNever, oRep, mNew, cLen, h0, h1, h2, h3, h9]
  have hm : m_undone_of = mSeq (mSetO 1 (oRep (mLst (mNew (mCons (mC (.int 0)) mNil))) (mCall cLen (mCons (mVar 0) mNil)))) (mSeq (mFor (srcE (mCons (mVar 0) mNil)) (tgTup 2 (tgCons (tgN 2) (tgCons (tgN 3) tgNil))) (mSetIx 1 (mVar 2) (mVar 3))) (mRetX 1)) := rfl
  have he := enum_tb0 (N := N) (f := f)
  generalize mSetIx 1 (mVar 2) (mVar 3) = body at *
  generalize oRep (mLst (mNew (mCons (mC (.int 0)) mNil))) (mCall cLen (mCons (mVar 0) mNil)) = rp at *
  generalize ((List.range N).map fun i => D.tup [.int (i : Nat), .int (f i : Nat)]) = en at *
  generalize tb N f = t at *
  generalize tb N g = tg at *
  generalize tb N (fun _ => 0) = t0 at *
  funext q
  simp [runD, env0, mSeq, mIfS, mNot, mB, mIsC, mVar, isC, mRet, mC, mTV, mAnd, mOr, mBin, mFld, dEqF, flV, retM, DL.bindM, mNx, mCall, lenM, mCons, mNil, mTup, mIsT, isT, mSet, mAsg, tgTup, tgCons, tgN, tgNil, mCallO, lenO, runO, mRetO, mLst, mIf, mUn, dNegI, mIsT2, mNoP, mPart, oListC, mDrop, mNever, o_undone_of, hm, mSetO, hr, mFor, srcE, he, e, mRetX] at e ⊢
/-! ### a play of a deal -/
end Q
end

section
set_option Elab.async false
set_option linter.all false
set_option maxRecDepth 100000
set_option maxHeartbeats 4000000
set_option exponentiation.threshold 20000
/-! k47: what is asked from outside. -/
namespace Q
open DL PySem PyProof.Rows Pa
variable {p : Nat}
theorem perm_rng : ∀ (n : Nat) (l : List Int), l.length = n → l.Nodup → (∀ x ∈ l, 0 ≤ x ∧ x < (n : Int)) → l.Perm (rngI n)
  | 0, l, hl, _, _ => by
    rw [List.eq_nil_of_length_eq_zero hl]
    exact List.Perm.refl _
  | n + 1, l, hl, hn, hx => by
    have er : (rngI (n + 1)).Perm ((n : Int) :: rngI n) := by
      unfold rngI
      rw [List.range_succ, List.map_append]
      exact List.perm_append_comm
    by_cases hin : (n : Int) ∈ l
    · have h1 := List.perm_cons_erase hin
      have h2 : (l.erase (n : Int)).Perm (rngI n) := by
        refine perm_rng n _ ?_ (hn.erase _) fun x hxe => ?_
        · rw [List.length_erase_of_mem hin, hl]; rfl
        · have hm := (List.Nodup.mem_erase_iff hn).mp hxe
          have := hx x hm.2
          have := hm.1
          omega
      exact h1.trans ((h2.cons _).trans er.symm)
    · cases l with
      | nil => simp [runD, env0, mSeq, mIfS, mNot, mB, mIsC, mVar, isC, mRet, mC, mTV, mAnd, mOr, mBin, mFld, dEqF, flV, retM, DL.bindM, mNx, mCall, lenM, mCons, mNil, mTup, mIsT, isT, mSet, mAsg, tgTup, tgCons, tgN, tgNil, mCallO, lenO, runO, mRetO, mLst, mIf, mUn, dNegI, mIsT2, mNoP, mPart, oListC, mDrop, mNever] at hl
      | cons a t =>
        exfalso
        rw [List.nodup_cons] at hn
        have hb : ∀ x ∈ a :: t, 0 ≤ x ∧ x < (n : Int) := fun x hxm => by
          have := hx x hxm
          have h3 : x ≠ (n : Int) := fun z => hin (z ▸ hxm)
          omega
        have h2 := perm_rng n t (by simpa [runD, env0, mSeq, mIfS, mNot, mB, mIsC, mVar, isC, mRet, mC, mTV, mAnd, mOr, mBin, mFld, dEqF, flV, retM, DL.bindM, mNx, mCall, lenM, mCons, mNil, mTup, mIsT, isT, mSet, mAsg, tgTup, tgCons, tgN, tgNil, mCallO, lenO, runO, mRetO, mLst, mIf, mUn, dNegI, mIsT2, mNoP, mPart, oListC, mDrop, mNever] using hl) hn.2 fun x hxt => hb x (List.mem_cons_of_mem _ hxt)
        have ha := hb a List.mem_cons_self
        have : a ∈ rngI n := by
          unfold rngI
          obtain ⟨k, rfl⟩ := Int.eq_ofNat_of_zero_le ha.1
          exact List.mem_map.mpr ⟨k, List.mem_range.mpr (by omega), rfl⟩
        exact hn.1 (h2.mem_iff.mpr this)
theorem rngI_sorted (n : Nat) : (rngI n).Pairwise (· ≤ ·) := by
  unfold rngI
  rw [List.pairwise_map]
  exact List.pairwise_lt_range.imp fun h => by omega
theorem sortI_rng {l : List Int} {n : Nat} (h : l.Perm (rngI n)) : sortI l = rngI n := (sortI_of h.symm (rngI_sorted n)).symm
theorem ints_kd {v : D} {ns : List Int} (h : itemsD v = some (ns.map .int)) (hl : ns.length ≤ 100000) : Kd v := by
  refine ⟨fun z => (by rw [z] at h; cases h), fun ds hi => ?_⟩
  rw [h] at hi
  cases hi
  refine ⟨by rw [List.length_map]; exact hl, fun d hd => ?_⟩
  obtain ⟨i, _, rfl⟩ := List.mem_map.mp hd
  exact fun z => nomatch z
theorem tbI_perm {N : Nat} {f : Nat → Nat} (hf : Pm N f) : (tbI N f).Perm (rngI N) := by
  refine perm_rng _ _ ?_ ?_ fun x hx => ?_
  · unfold tbI; simp [runD, env0, mSeq, mIfS, mNot, mB, mIsC, mVar, isC, mRet, mC, mTV, mAnd, mOr, mBin, mFld, dEqF, flV, retM, DL.bindM, mNx, mCall, lenM, mCons, mNil, mTup, mIsT, isT, mSet, mAsg, tgTup, tgCons, tgN, tgNil, mCallO, lenO, runO, mRetO, mLst, mIf, mUn, dNegI, mIsT2, mNoP, mPart, oListC, mDrop, mNever]
  · unfold tbI
    refine List.pairwise_map.mpr (List.nodup_range.imp_of_mem fun {a b} ha hb hne e => hne ?_)
    exact hf.inj a b (List.mem_range.mp ha) (List.mem_range.mp hb) (by omega)
  · unfold tbI at hx
    obtain ⟨i, hi, rfl⟩ := List.mem_map.mp hx
    have := hf.lt i (List.mem_range.mp hi)
    omega
theorem tbI_sort {N : Nat} {f : Nat → Nat} (hf : Pm N f) : sortI (tbI N f) = rngI N := sortI_rng (tbI_perm hf)
/-- a deal handed in -/
def Hd (p : Nat) (f : Nat → Nat) (v : D) : Prop := itemsD v = some (tb (p * p) f)
theorem Hd.ints {f : Nat → Nat} {v : D} (h : Hd p f v) : itemsD v = some ((tbI (p * p) f).map .int) := by
  unfold Hd at h
  rw [h, tb_eq]
theorem hd_lst (p : Nat) (f : Nat → Nat) : Hd p f (.lst (tb (p * p) f)) := rfl
theorem hd_tup (p : Nat) (f : Nat → Nat) : Hd p f (.tup (tb (p * p) f)) := rfl
theorem want_tb (hp : isP p) {f : Nat → Nat} (hf : Pm (p * p) f) {v : D} (h : Hd p f v) : o_want_deal [.int p, v] = retM (tb (p * p) f) := by
  have hsq := sq_le hp.le
  rw [wantdeal_eq hp.le (ints_kd h.ints (by unfold tbI; rw [List.length_map, List.length_range]; omega)) h.ints (tbI_sort hf), tb_eq]
theorem evendeal_eq (hp : isP p) {f : Nat → Nat} (hf : Pm (p * p) f) {v : D} (hv : Hd p f v) : d_is_even_deal [.int p, v] = retM (.bl (!(sg (p * p) f))) := by
  have hsq := sq_le hp.le
  have e1 := want_prime_eq hp
  have e2 := want_tb hp hf hv
  have e3 := even_eq (N := p * p) hf (by omega)
  generalize tb (p * p) f = t at *
  funext q
  simp [runD, env0, mSeq, mIfS, mNot, mB, mIsC, mVar, isC, mRet, mC, mTV, mAnd, mOr, mBin, mFld, dEqF, flV, retM, DL.bindM, mNx, mCall, lenM, mCons, mNil, mTup, mIsT, isT, mSet, mAsg, tgTup, tgCons, tgN, tgNil, mCallO, lenO, runO, mRetO, mLst, mIf, mUn, dNegI, mIsT2, mNoP, mPart, oListC, mDrop, mNever, d_is_even_deal, m_is_even_deal, e1, e2, e3]
theorem behind_told (hp : isP p) {f g : Nat → Nat} (hf : Pm (p * p) f) (hg : Pm (p * p) g) {v w : D} (hv : Hd p f v) (hw : Hd p g w) : o_behind_deal [.int p, v, w] = retM (tb (p * p) fun i => f (g i)) := by
  have hsq := sq_le hp.le
  have e1 := want_prime_eq hp
  have e2 := want_tb hp hf hv
  have e3 := want_tb hp hg hw
  have e4 := behind_tb (N := p * p) (f := f) (g := g) (by omega) hg.lt
  generalize tb (p * p) f = t at *
  generalize tb (p * p) g = t2 at *
  generalize tb (p * p) (fun i => f (g i)) = t3 at *
  funext q
  simp [runD, env0, mSeq, mIfS, mNot, mB, mIsC, mVar, isC, mRet, mC, mTV, mAnd, mOr, mBin, mFld, dEqF, flV, retM, DL.bindM, mNx, mCall, lenM, mCons, mNil, mTup, mIsT, isT, mSet, mAsg, tgTup, tgCons, tgN, tgNil, mCallO, lenO, runO, mRetO, mLst, mIf, mUn, dNegI, mIsT2, mNoP, mPart, oListC, mDrop, mNever, o_behind_deal, m_behind_deal, e1, e2, e3, e4]
theorem undone_told (hp : isP p) {f : Nat → Nat} (hf : Pm (p * p) f) : ∃ g, (∀ v, Hd p f v → o_undone_deal [.int p, v] = retM (tb (p * p) g)) ∧ Inv' (p * p) f g := by
  have hsq := sq_le hp.le
  obtain ⟨g, e, h⟩ := undone_eq (N := p * p) (by omega) hf
  refine ⟨g, fun v hv => ?_, h⟩
  have e1 := want_prime_eq hp
  have e2 := want_tb hp hf hv
  generalize tb (p * p) f = t at *
  generalize tb (p * p) g = t2 at *
  funext q
  simp [runD, env0, mSeq, mIfS, mNot, mB, mIsC, mVar, isC, mRet, mC, mTV, mAnd, mOr, mBin, mFld, dEqF, flV, retM, DL.bindM, mNx, mCall, lenM, mCons, mNil, mTup, mIsT, isT, mSet, mAsg, tgTup, tgCons, tgN, tgNil, mCallO, lenO, runO, mRetO, mLst, mIf, mUn, dNegI, mIsT2, mNoP, mPart, oListC, mDrop, mNever, o_undone_deal, m_undone_deal, e1, e2, e]
end Q
end

section
set_option Elab.async false
set_option linter.all false
set_option maxRecDepth 100000
set_option maxHeartbeats 4000000
set_option exponentiation.threshold 20000
/-! k47: what the law draws. -/
namespace Q
open DL PySem PyProof.Rows Pa
structure Good (p : Pt) : Prop where
  a : 0 ≤ p.1
  b : 0 ≤ p.2
  c : p.2 < 2147483648
theorem big32 : 4294967296 * 4294967296 < bigN := by unfold bigN; decide +kernel
theorem law_draw {p : Pt} (hp : Good p) {many : Int} (h1 : 0 < many) (h2 : many < 4294967296) : ∃ (r : Nat) (p' : Pt), d__law_draw [.pot, .int many] p = some (.int (r : Nat), p') ∧ (r : Int) < many ∧ Good p' := by
  have key : ∃ r p', d__law_draw [.pot, .int many] p = some (.int r, p') ∧ 0 ≤ r ∧ r < many ∧ Good p' := by
    obtain ⟨a, b⟩ := p
    obtain ⟨ha, hb, hc⟩ := hp
    simp only at ha hb hc
    by_cases hz : 0 < a
    · refine ⟨a % many, (a / many, b), ?_, Int.emod_nonneg _ (by omega), Int.emod_lt_of_pos _ h1, ⟨Int.ediv_nonneg (by omega) (by omega), hb, hc⟩⟩
      have hm : 0 < many ∧ many < 18446744073709551616 := by omega
      simp [runD, env0, mSeq, mIfS, mNot, mB, mIsC, mVar, isC, mRet, mC, mTV, mAnd, mOr, mBin, mFld, dEqF, flV, retM, DL.bindM, mNx, mCall, lenM, mCons, mNil, mTup, mIsT, isT, mSet, mAsg, tgTup, tgCons, tgN, tgNil, mCallO, lenO, runO, mRetO, mLst, mIf, mUn, dNegI, mIsT2, mNoP, mPart, oListC, mDrop, mNever, d__law_draw, m__law_draw, mPot, mPotDiv, dGt, dII, hz, cDivmod, hm]
    · obtain ⟨b1, hb1⟩ : ∃ b1, b1 = (b * 40692 + 1787) % 2147483563 := ⟨_, rfl⟩
      have g1 : 0 ≤ b1 := by rw [hb1]; exact Int.emod_nonneg _ (by decide)
      have g2 : b1 < 2147483563 := by rw [hb1]; exact Int.emod_lt_of_pos _ (by decide)
      have hbig := big32
      have hz1 : b.natAbs < bigN := by omega
      have hz2 : 40692 < bigN := by omega
      have hz3 : b1.natAbs < bigN := by omega
      have hz4 : 29 < bigN := by omega
      refine ⟨(b1 * b1 % 2147483549).fdiv 29 % many, (a, b1), ?_, Int.emod_nonneg _ (by omega), Int.emod_lt_of_pos _ h1, ⟨ha, g1, by show b1 < _; omega⟩⟩
      simp [runD, env0, mSeq, mIfS, mNot, mB, mIsC, mVar, isC, mRet, mC, mTV, mAnd, mOr, mBin, mFld, dEqF, flV, retM, DL.bindM, mNx, mCall, lenM, mCons, mNil, mTup, mIsT, isT, mSet, mAsg, tgTup, tgCons, tgN, tgNil, mCallO, lenO, runO, mRetO, mLst, mIf, mUn, dNegI, mIsT2, mNoP, mPart, oListC, mDrop, mNever, d__law_draw, m__law_draw, mPot, mSetPot, dGt, dII, hz, dMulI, dAddI, dModI, dDivI, cInt, hz1, hz2, hz3, hz4, ← hb1, h1]
  obtain ⟨r, p', e, h3, h4, g⟩ := key
  obtain ⟨n, rfl⟩ := Int.eq_ofNat_of_zero_le h3
  exact ⟨n, p', e, h4, g⟩
theorem law_pick {p : Pt} (hp : Good p) {ds : List D} (h1 : 0 < ds.length) (h2 : ds.length < 4294967296) : ∃ d p', d ∈ ds ∧ d__law_pick [.pot, .lst ds] p = some (d, p') ∧ Good p' := by
  obtain ⟨i, p', e, hr, g⟩ := law_draw hp (many := (ds.length : Nat)) (by omega) (by omega)
  have hi : i < ds.length := by omega
  refine ⟨ds[i], p', List.getElem_mem hi, ?_, g⟩
  have hat := at_lst (ds := ds) (i := i) (d := ds[i]) (List.getElem?_eq_getElem hi)
  simp [runD, env0, mSeq, mIfS, mNot, mB, mIsC, mVar, isC, mRet, mC, mTV, mAnd, mOr, mBin, mFld, dEqF, flV, retM, DL.bindM, mNx, mCall, lenM, mCons, mNil, mTup, mIsT, isT, mSet, mAsg, tgTup, tgCons, tgN, tgNil, mCallO, lenO, runO, mRetO, mLst, mIf, mUn, dNegI, mIsT2, mNoP, mPart, oListC, mDrop, mNever, d__law_pick, m__law_pick, cLen, e, hat]
theorem nl_get {l : List Nat} {i : Nat} (h : i < l.length) : (nl l)[i]? = some (.int (l[i] : Nat)) := by
  unfold nl
  rw [List.getElem?_map, List.getElem?_eq_getElem h]
  rfl
theorem nl_erase : ∀ (l : List Nat) (i : Nat), (nl l).eraseIdx i = nl (l.eraseIdx i)
  | [], i => by simp [runD, env0, mSeq, mIfS, mNot, mB, mIsC, mVar, isC, mRet, mC, mTV, mAnd, mOr, mBin, mFld, dEqF, flV, retM, DL.bindM, mNx, mCall, lenM, mCons, mNil, mTup, mIsT, isT, mSet, mAsg, tgTup, tgCons, tgN, tgNil, mCallO, lenO, runO, mRetO, mLst, mIf, mUn, dNegI, mIsT2, mNoP, mPart, oListC, mDrop, mNever, nl]
  | a :: l, 0 => rfl
  | a :: l, i + 1 => by
    show (D.int (a : Nat) :: nl l).eraseIdx (i + 1) = D.int (a : Nat) :: nl (l.eraseIdx i)
    rw [List.eraseIdx_cons_succ, nl_erase l i]
theorem nl_app2 (l l' : List Nat) : nl l ++ nl l' = nl (l ++ l') := by unfold nl; simp [runD, env0, mSeq, mIfS, mNot, mB, mIsC, mVar, isC, mRet, mC, mTV, mAnd, mOr, mBin, mFld, dEqF, flV, retM, DL.bindM, mNx, mCall, lenM, mCons, mNil, mTup, mIsT, isT, mSet, mAsg, tgTup, tgCons, tgN, tgNil, mCallO, lenO, runO, mRetO, mLst, mIf, mUn, dNegI, mIsT2, mNoP, mPart, oListC, mDrop, mNever]
/-- one drawn out of the left ones -/
theorem pop_run {p : Pt} (hp : Good p) {left found : List Nat} (hl : left ≠ []) (hz : left.length ≤ 1000) (hz2 : found.length ≤ 1000) {i j : Nat} {e : Env' → Mo D} {env : Env'} (hi : env[i]? = some (.own (nl found))) (hj : env[j]? = some (.own (nl left))) (hij : i ≠ j) (he : e env = d__law_draw [.pot, .int (left.length : Nat)]) :
    ∃ (k : Nat) (hk : k < left.length) (p' : Pt), mAppPop i j e env p = some ((.nx, (env.set j (.own (nl (left.eraseIdx k)))).set i (.own (nl (found ++ [left[k]])))), p') ∧ Good p' := by
  have hpos : 0 < left.length := List.length_pos_iff.mpr hl
  obtain ⟨k, p', e1, hk, g⟩ := law_draw hp (many := (left.length : Nat)) (by omega) (by omega)
  have hk' : k < left.length := by omega
  refine ⟨k, hk', p', ?_, g⟩
  have hx : L2.ixN (nl left).length (k : Int) = some k := ixN_nat (by rw [nl_len]; exact hk')
  have hg := nl_get hk'
  have h3 := nl_erase left k
  have h4 := nl_app found left[k]
  have h5 : (nl found).length ≤ 100000 := by rw [nl_len]; omega
  have h6 : (nl left).length ≤ 100000 := by rw [nl_len]; omega
  unfold mAppPop
  rw [he]
  simp only [DL.bindM, e1, hi, hj, hx, hg, h3, h4]
  rw [if_pos ⟨hij, h5, h6⟩]
  rfl
theorem erase_perm : ∀ {l : List Nat} {k : Nat} (h : k < l.length), (l[k] :: l.eraseIdx k).Perm l
  | [], _, h => absurd h (Nat.not_lt_zero _)
  | a :: l, 0, _ => List.Perm.refl _
  | a :: l, k + 1, h => by
    have hk : k < l.length := by simpa [runD, env0, mSeq, mIfS, mNot, mB, mIsC, mVar, isC, mRet, mC, mTV, mAnd, mOr, mBin, mFld, dEqF, flV, retM, DL.bindM, mNx, mCall, lenM, mCons, mNil, mTup, mIsT, isT, mSet, mAsg, tgTup, tgCons, tgN, tgNil, mCallO, lenO, runO, mRetO, mLst, mIf, mUn, dNegI, mIsT2, mNoP, mPart, oListC, mDrop, mNever] using h
    have ih := erase_perm (l := l) (k := k) hk
    show (l[k] :: a :: l.eraseIdx k).Perm (a :: l)
    exact (List.Perm.swap _ _ _).trans (ih.cons a)
theorem erase_len {l : List Nat} {k : Nat} (h : k < l.length) : (l.eraseIdx k).length + 1 = l.length := by
  rw [List.length_eraseIdx_of_lt h]; omega
def mxC : Env' → Mo Bool := mBorT 2 (mB (mBin (dEqU true) (mVar 2) (mLst (mNew mNil))))
def mxB : MS := mAppPop 3 2 (mCall (lenM 2 d__law_draw) (mCons (mVar 0) (mCons (mLen (mVarB 2)) mNil)))
theorem mx_test (left : List Nat) (v0 v1 v3 : SV) : mxC [v0, v1, .own (nl left), v3] = retM (!left.isEmpty) := by
  have h1 := eq_nil true (nl left)
  have e : (nl left).isEmpty = left.isEmpty := by cases left <;> rfl
  rw [e] at h1
  have e2 : (left.isEmpty != true) = !left.isEmpty := by cases left.isEmpty <;> rfl
  rw [e2] at h1
  unfold mxC
  generalize dEqU = eqf at *
  generalize nl left = l at *
  generalize (!left.isEmpty) = b at *
  funext q
  simp [runD, env0, mSeq, mIfS, mNot, mB, mIsC, mVar, isC, mRet, mC, mTV, mAnd, mOr, mBin, mFld, dEqF, flV, retM, DL.bindM, mNx, mCall, lenM, mCons, mNil, mTup, mIsT, isT, mSet, mAsg, tgTup, tgCons, tgN, tgNil, mCallO, lenO, runO, mRetO, mLst, mIf, mUn, dNegI, mIsT2, mNoP, mPart, oListC, mDrop, mNever, mBorT, mNew, h1]
theorem while_goP {c : Env' → Mo Bool} {b : MS} {n : Nat} {env env' : Env'} {p p' : Pt} (h : c env = retM true) (hb : b env p = some ((.nx, env'), p')) : whileM c b (n + 1) env p = whileM c b n env' p' := by
  show DL.bindM (c env) _ p = _
  rw [h, bindM_ret, if_pos rfl]
  show DL.bindM (b env) _ p = _
  unfold DL.bindM
  rw [hb]
theorem mx_loop (v1 : SV) : ∀ (k : Nat) (left found : List Nat) (p : Pt), Good p → left.length < k → left.length + found.length ≤ 900 → ∃ (es : List Nat) (p' : Pt), whileM mxC mxB k [.val .pot, v1, .own (nl left), .own (nl found)] p = some ((.nx, [.val .pot, v1, .own (nl []), .own (nl (found ++ es))]), p') ∧ es.Perm left ∧ Good p'
  | 0, left, found, p, _, hk, _ => absurd hk (Nat.not_lt_zero _)
  | k + 1, left, found, p, hp, hk, hl => by
    have ht := mx_test left (.val .pot) v1 (.own (nl found))
    cases left with
    | nil =>
      refine ⟨[], p, ?_, List.Perm.refl _, hp⟩
      rw [List.append_nil, while_stop ht]
      rfl
    | cons a l =>
      have he : (mCall (lenM 2 d__law_draw) (mCons (mVar 0) (mCons (mLen (mVarB 2)) mNil))) [.val .pot, v1, .own (nl (a :: l)), .own (nl found)] = d__law_draw [.pot, .int ((a :: l).length : Nat)] := by
        have hn : (nl (a :: l)).length = (a :: l).length := nl_len
        generalize nl (a :: l) = x at *
        funext q
        simp [runD, env0, mSeq, mIfS, mNot, mB, mIsC, mVar, isC, mRet, mC, mTV, mAnd, mOr, mBin, mFld, dEqF, flV, retM, DL.bindM, mNx, mCall, lenM, mCons, mNil, mTup, mIsT, isT, mSet, mAsg, tgTup, tgCons, tgN, tgNil, mCallO, lenO, runO, mRetO, mLst, mIf, mUn, dNegI, mIsT2, mNoP, mPart, oListC, mDrop, mNever, mLen, mVarB, cLen, hn]
      obtain ⟨i, hi, p1, e1, g1⟩ := pop_run hp (left := a :: l) (found := found) (fun z => nomatch z) (by omega) (by omega) (i := 3) (j := 2) (e := mCall (lenM 2 d__law_draw) (mCons (mVar 0) (mCons (mLen (mVarB 2)) mNil))) (env := [.val .pot, v1, .own (nl (a :: l)), .own (nl found)]) rfl rfl (by decide) he
      have hel := erase_len hi
      obtain ⟨es, p2, e2, hp2, g2⟩ := mx_loop v1 k ((a :: l).eraseIdx i) (found ++ [(a :: l)[i]]) p1 g1 (by omega) (by rw [List.length_append, List.length_singleton]; omega)
      refine ⟨(a :: l)[i] :: es, p2, ?_, (hp2.cons _).trans (erase_perm hi), g2⟩
      rw [List.append_assoc] at e2
      have e1' : mxB [.val .pot, v1, .own (nl (a :: l)), .own (nl found)] p = _ := e1
      rw [while_goP ht e1']
      exact e2
theorem rgNl {e : Env' → Mo D} {env : Env'} {n : Nat} (h : e env = retM (.int (n : Nat))) (hn : n ≤ 1000) : oRg1 e env = retM (nl (List.range n)) := by
  rw [rg1 h hn]
  unfold nl rngI
  rw [List.map_map]
  rfl
theorem law_mixed {p : Pt} (hp : Good p) {N : Nat} (hl : N ≤ 500) : ∃ (es : List Nat) (p' : Pt), o__law_mixed [.pot, .int N] p = some (nl es, p') ∧ es.Perm (List.range N) ∧ Good p' := by
  obtain ⟨es, p', e, hperm, g⟩ := mx_loop (.val (.int N)) fuelW (List.range N) [] p hp (by rw [List.length_range]; unfold fuelW; omega) (by simp [runD, env0, mSeq, mIfS, mNot, mB, mIsC, mVar, isC, mRet, mC, mTV, mAnd, mOr, mBin, mFld, dEqF, flV, retM, DL.bindM, mNx, mCall, lenM, mCons, mNil, mTup, mIsT, isT, mSet, mAsg, tgTup, tgCons, tgN, tgNil, mCallO, lenO, runO, mRetO, mLst, mIf, mUn, dNegI, mIsT2, mNoP, mPart, oListC, mDrop, mNever]; omega)
  refine ⟨es, p', ?_, hperm, g⟩
  rw [List.nil_append] at e
  have hm : m__law_mixed = mSeq (mParOO 2 3 (oRg1 (mVar 1)) (mNew mNil)) (mSeq (mWhile mxC mxB) (mRetX 3)) := rfl
  have hw : mWhile mxC mxB [.val .pot, .val (.int N), .own (nl (List.range N)), .own (nl [])] p = some ((.nx, [.val .pot, .val (.int N), .own (nl []), .own (nl es)]), p') := e
  have hr : oRg1 (mVar 1) [.val .pot, .val (.int N), .un, .un] = retM (nl (List.range N)) := rgNl (by rfl) (by omega)
  have e0 : nl [] = [] := rfl
  rw [e0] at hw
  generalize mWhile mxC mxB = wh at *
  generalize oRg1 (mVar 1) = rg at *
  generalize nl (List.range N) = x at *
  generalize nl es = y at *
  simp [runD, env0, mSeq, mIfS, mNot, mB, mIsC, mVar, isC, mRet, mC, mTV, mAnd, mOr, mBin, mFld, dEqF, flV, retM, DL.bindM, mNx, mCall, lenM, mCons, mNil, mTup, mIsT, isT, mSet, mAsg, tgTup, tgCons, tgN, tgNil, mCallO, lenO, runO, mRetO, mLst, mIf, mUn, dNegI, mIsT2, mNoP, mPart, oListC, mDrop, mNever, o__law_mixed, hm, mParOO, mNew, hr, hw, mRetX]
end Q
end

section
set_option Elab.async false
set_option linter.all false
set_option maxRecDepth 100000
set_option maxHeartbeats 4000000
set_option exponentiation.threshold 20000
/-! k47: deals of drawn rounds. -/
namespace Q
open DL PySem PyProof.Rows Pa
/-! ### a list that has each number once -/
def lf (l : List Nat) (i : Nat) : Nat := l.getD i 0
theorem lf_get {l : List Nat} {i : Nat} (h : i < l.length) : lf l i = l[i] := by
  unfold lf
  rw [List.getD_eq_getElem?_getD, List.getElem?_eq_getElem h]
  rfl
theorem lf_tb {l : List Nat} {N : Nat} (h : l.length = N) : nl l = tb N (lf l) := by
  refine List.ext_getElem? fun i => ?_
  by_cases hi : i < N
  · rw [tb_get hi, nl_get (by omega), lf_get (by omega)]
  · rw [List.getElem?_eq_none (by rw [nl_len]; omega), List.getElem?_eq_none (by rw [tb_len]; omega)]
theorem lf_pm {l : List Nat} {N : Nat} (h : l.Perm (List.range N)) : Pm N (lf l) := by
  have hl := h.length_eq
  rw [List.length_range] at hl
  have hn : l.Nodup := h.nodup_iff.mpr List.nodup_range
  refine ⟨fun i hi => ?_, fun i j hi hj e => ?_⟩
  · rw [lf_get (by omega)]
    exact List.mem_range.mp (h.mem_iff.mp (List.getElem_mem _))
  · rw [lf_get (by omega), lf_get (by omega)] at e
    exact get_inj hn _ _ e
/-! ### so many led round -/
def fupL (g : Nat → Nat) (l : List (Nat × Nat)) : Nat → Nat := l.foldl (fun g q => fup g q.1 q.2) g
theorem fupL_out : ∀ (l : List (Nat × Nat)) (g : Nat → Nat) (i : Nat), i ∉ l.map (·.1) → fupL g l i = g i
  | [], g, i, _ => rfl
  | q :: l, g, i, h => by
    rw [List.map_cons, List.mem_cons, not_or] at h
    have e : fupL g (q :: l) = fupL (fup g q.1 q.2) l := rfl
    rw [e, fupL_out l _ i h.2]
    unfold fup
    rw [if_neg h.1]
theorem fupL_in : ∀ (l : List (Nat × Nat)) (g : Nat → Nat), (l.map (·.1)).Nodup → ∀ q ∈ l, fupL g l q.1 = q.2
  | [], _, _, _, h => nomatch h
  | r :: l, g, hn, q, hq => by
    rw [List.map_cons, List.nodup_cons] at hn
    have e : fupL g (r :: l) = fupL (fup g r.1 r.2) l := rfl
    rw [e]
    rcases List.mem_cons.mp hq with rfl | hq
    · rw [fupL_out l _ _ hn.1]
      unfold fup
      rw [if_pos rfl]
    · exact fupL_in l _ hn.2 q hq
/-! ### a row led round -/
def nxi (L i : Nat) : Nat := if i + 1 < L then i + 1 else 0
theorem nxi_lt {L i : Nat} (h : i < L) : nxi L i < L := by unfold nxi; split <;> omega
theorem nxi_inj {L i j : Nat} (hi : i < L) (hj : j < L) (e : nxi L i = nxi L j) : i = j := by
  unfold nxi at e
  split at e <;> split at e <;> omega
def rlp (row : List Nat) (i : Nat) : Nat × Nat := (lf row i, lf row (nxi row.length i))
def rl (row : List Nat) : List (Nat × Nat) := (List.range row.length).map (rlp row)
theorem rl_fst (row : List Nat) : (rl row).map (·.1) = row := by
  unfold rl
  rw [List.map_map]
  refine List.ext_getElem (by simp [runD, env0, mSeq, mIfS, mNot, mB, mIsC, mVar, isC, mRet, mC, mTV, mAnd, mOr, mBin, mFld, dEqF, flV, retM, DL.bindM, mNx, mCall, lenM, mCons, mNil, mTup, mIsT, isT, mSet, mAsg, tgTup, tgCons, tgN, tgNil, mCallO, lenO, runO, mRetO, mLst, mIf, mUn, dNegI, mIsT2, mNoP, mPart, oListC, mDrop, mNever]) fun i h1 h2 => ?_
  rw [List.getElem_map, List.getElem_range]
  exact lf_get h2
/-- h leads the numbers of done among themselves, each to one -/
structure Pd (h : Nat → Nat) (done : List Nat) : Prop where
  cl : ∀ x ∈ done, h x ∈ done
  inj : ∀ x ∈ done, ∀ y ∈ done, h x = h y → x = y
theorem Pd.step {h : Nat → Nat} {done row : List Nat} (k : Pd h done) (hn : (done ++ row).Nodup) : Pd (fupL h (rl row)) (done ++ row) := by
  obtain ⟨_, hr, hd⟩ := List.nodup_append.mp hn
  have hkeys : ((rl row).map (·.1)).Nodup := by rw [rl_fst]; exact hr
  have hout : ∀ x ∈ done, fupL h (rl row) x = h x := fun x hx => fupL_out _ _ _ (by rw [rl_fst]; exact fun z => hd x hx x z rfl)
  have hin : ∀ i, i < row.length → fupL h (rl row) (lf row i) = lf row (nxi row.length i) := fun i hi => by
    have := fupL_in (rl row) h hkeys (rlp row i) (List.mem_map.mpr ⟨i, List.mem_range.mpr hi, rfl⟩)
    exact this
  have hix : ∀ x ∈ row, ∃ i, i < row.length ∧ x = lf row i := fun x hx => by
    obtain ⟨i, hi, rfl⟩ := List.mem_iff_getElem.mp hx
    exact ⟨i, hi, (lf_get hi).symm⟩
  have hmem : ∀ i, i < row.length → lf row i ∈ row := fun i hi => by rw [lf_get hi]; exact List.getElem_mem _
  refine ⟨fun x hx => ?_, fun x hx y hy e => ?_⟩
  · rcases List.mem_append.mp hx with hx | hx
    · rw [hout x hx]; exact List.mem_append_left _ (k.cl x hx)
    · obtain ⟨i, hi, rfl⟩ := hix x hx
      rw [hin i hi]
      exact List.mem_append_right _ (hmem _ (nxi_lt hi))
  · rcases List.mem_append.mp hx with hx | hx <;> rcases List.mem_append.mp hy with hy | hy
    · rw [hout x hx, hout y hy] at e
      exact k.inj x hx y hy e
    · obtain ⟨i, hi, rfl⟩ := hix y hy
      rw [hout x hx, hin i hi] at e
      exact absurd rfl (hd _ (k.cl x hx) _ (by rw [e]; exact hmem _ (nxi_lt hi)))
    · obtain ⟨i, hi, rfl⟩ := hix x hx
      rw [hout y hy, hin i hi] at e
      exact absurd rfl (hd _ (k.cl y hy) _ (by rw [← e]; exact hmem _ (nxi_lt hi)))
    · obtain ⟨i, hi, rfl⟩ := hix x hx
      obtain ⟨j, hj, rfl⟩ := hix y hy
      rw [hin i hi, hin j hj, lf_get (nxi_lt hi), lf_get (nxi_lt hj)] at e
      have := nxi_inj hi hj (get_inj hr _ _ e)
      rw [this]
theorem Pd.pm {h : Nat → Nat} {done : List Nat} {N : Nat} (k : Pd h done) (hp : done.Perm (List.range N)) : Pm N h :=
  ⟨fun i hi => List.mem_range.mp (hp.mem_iff.mp (k.cl i (hp.mem_iff.mpr (List.mem_range.mpr hi)))), fun i j hi hj e => k.inj i (hp.mem_iff.mpr (List.mem_range.mpr hi)) j (hp.mem_iff.mpr (List.mem_range.mpr hj)) e⟩
/-! ### the loop -/
def rbB : MS := mSetIx 3 (mIf (mB (mBin dLt (mBin dAddI (mVar 6) (mC (.int 1))) (mVar 4))) (mBin atD (mVar 5) (mBin dAddI (mVar 6) (mC (.int 1)))) (mBin atD (mVar 5) (mC (.int 0)))) (mVar 7)
def ixD (row : List Nat) (i : Nat) : D := .tup [.int (i : Nat), .int (lf row i : Nat)]
theorem enum_row (row : List Nat) : enumD 0 (nl row) = (List.range row.length).map (ixD row) := by
  rw [lf_tb (l := row) rfl, enum_tb0]
  rfl
theorem rb_at {row : List Nat} {i : Nat} (hi : i < row.length) : atD (.lst (nl row)) (.int (i : Nat)) = retM (.int (lf row i : Nat)) := by
  rw [lf_get hi]
  exact at_lst (nl_get hi)
theorem rb_loop {N : Nat} {row : List Nat} (hrow : ∀ x ∈ row, x < N) (v0 v1 v2 : SV) : ∀ (is : List Nat) (h : Nat → Nat) (v6 v7 : SV), (∀ i ∈ is, i < row.length) → ∃ w6 w7, loopM (mTg (tgTup 2 (tgCons (tgN 6) (tgCons (tgN 7) tgNil))) rbB) (is.map (ixD row)) [v0, v1, v2, .own (tb N h), .val (.int (row.length : Nat)), .val (.lst (nl row)), v6, v7] = retM (.nx, [v0, v1, v2, .own (tb N (fupL h (is.map (rlp row)))), .val (.int (row.length : Nat)), .val (.lst (nl row)), w6, w7])
  | [], h, v6, v7, _ => ⟨v6, v7, rfl⟩
  | i :: is, h, v6, v7, hi => by
    have hiL := hi i List.mem_cons_self
    obtain ⟨w6, w7, e⟩ := rb_loop hrow v0 v1 v2 is (fup h (lf row i) (lf row (nxi row.length i))) (.val (.int (i : Nat))) (.val (.int (lf row i : Nat))) fun j hj => hi j (List.mem_cons_of_mem _ hj)
    refine ⟨w6, w7, ?_⟩
    have e0 : fupL h ((i :: is).map (rlp row)) = fupL (fup h (lf row i) (lf row (nxi row.length i))) (is.map (rlp row)) := rfl
    rw [e0, ← e, List.map_cons]
    have hlt : lf row i < N := by rw [lf_get hiL]; exact hrow _ (List.getElem_mem _)
    have hx : L2.ixN (tb N h).length ((lf row i : Nat) : Int) = some (lf row i) := ixN_nat (by rw [tb_len]; exact hlt)
    have hs : (tb N h).set (lf row i) (.int (lf row (nxi row.length i) : Nat)) = tb N (fup h (lf row i) (lf row (nxi row.length i))) := tb_set
    have hat := rb_at (nxi_lt hiL)
    have hd : ixD row i = .tup [.int (i : Nat), .int (lf row i : Nat)] := rfl
    rw [hd]
    have hval : (mIf (mB (mBin dLt (mBin dAddI (mVar 6) (mC (.int 1))) (mVar 4))) (mBin atD (mVar 5) (mBin dAddI (mVar 6) (mC (.int 1)))) (mBin atD (mVar 5) (mC (.int 0)))) [v0, v1, v2, .own (tb N h), .val (.int (row.length : Nat)), .val (.lst (nl row)), .val (.int (i : Nat)), .val (.int (lf row i : Nat))] = retM (.int (lf row (nxi row.length i) : Nat)) := by
      unfold nxi at hat ⊢
      by_cases z : i + 1 < row.length
      · rw [if_pos z] at hat ⊢
        have z2 : (i : Int) + 1 < (row.length : Int) := by omega
        rw [Int.natCast_add] at hat
        have e1 : ((1 : Nat) : Int) = 1 := rfl
        rw [e1] at hat
        generalize nl row = r at *
        generalize tb N h = t at *
        funext q
        simp [runD, env0, mSeq, mIfS, mNot, mB, mIsC, mVar, isC, mRet, mC, mTV, mAnd, mOr, mBin, mFld, dEqF, flV, retM, DL.bindM, mNx, mCall, lenM, mCons, mNil, mTup, mIsT, isT, mSet, mAsg, tgTup, tgCons, tgN, tgNil, mCallO, lenO, runO, mRetO, mLst, mIf, mUn, dNegI, mIsT2, mNoP, mPart, oListC, mDrop, mNever, dLt, dAddI, dII, z2, hat]
      · rw [if_neg z] at hat ⊢
        have z2 : ¬ (i : Int) + 1 < (row.length : Int) := by omega
        have e1 : ((0 : Nat) : Int) = 0 := rfl
        rw [e1] at hat
        generalize nl row = r at *
        generalize tb N h = t at *
        funext q
        simp [runD, env0, mSeq, mIfS, mNot, mB, mIsC, mVar, isC, mRet, mC, mTV, mAnd, mOr, mBin, mFld, dEqF, flV, retM, DL.bindM, mNx, mCall, lenM, mCons, mNil, mTup, mIsT, isT, mSet, mAsg, tgTup, tgCons, tgN, tgNil, mCallO, lenO, runO, mRetO, mLst, mIf, mUn, dNegI, mIsT2, mNoP, mPart, oListC, mDrop, mNever, dLt, dAddI, dII, z2, hat]
    unfold rbB
    generalize (mIf (mB (mBin dLt (mBin dAddI (mVar 6) (mC (.int 1))) (mVar 4))) (mBin atD (mVar 5) (mBin dAddI (mVar 6) (mC (.int 1)))) (mBin atD (mVar 5) (mC (.int 0)))) = me at *
    generalize tb N (fup h (lf row i) (lf row (nxi row.length i))) = t2 at *
    generalize tb N h = t at *
    generalize nl row = r at *
    funext q
    conv => lhs; unfold loopM
    simp [runD, env0, mSeq, mIfS, mNot, mB, mIsC, mVar, isC, mRet, mC, mTV, mAnd, mOr, mBin, mFld, dEqF, flV, retM, DL.bindM, mNx, mCall, lenM, mCons, mNil, mTup, mIsT, isT, mSet, mAsg, tgTup, tgCons, tgN, tgNil, mCallO, lenO, runO, mRetO, mLst, mIf, mUn, dNegI, mIsT2, mNoP, mPart, oListC, mDrop, mNever, mTg, mSetIx, hval, hx, hs]
end Q
end

section
set_option Elab.async false
set_option linter.all false
set_option maxRecDepth 100000
set_option maxHeartbeats 4000000
set_option exponentiation.threshold 20000
/-! k47: drawn deals. -/
namespace Q
open DL PySem PyProof.Rows Pa
theorem eqi (a b : Int) : dEqF false (.int a) (.int b) = retM (.bl (decide (a = b))) := by
  simp [runD, env0, mSeq, mIfS, mNot, mB, mIsC, mVar, isC, mRet, mC, mTV, mAnd, mOr, mBin, mFld, dEqF, flV, retM, DL.bindM, mNx, mCall, lenM, mCons, mNil, mTup, mIsT, isT, mSet, mAsg, tgTup, tgCons, tgN, tgNil, mCallO, lenO, runO, mRetO, mLst, mIf, mUn, dNegI, mIsT2, mNoP, mPart, oListC, mDrop, mNever, L2.scal]
theorem cut_lo (l : List Nat) (n : Nat) : DL.cutD (nl l) none (some n) = nl (l.take n) := by
  unfold DL.cutD
  have e1 : HT.sIx (nl l).length (nl l).length (some (n : Int)) = min n (nl l).length := HT.sIx_nat _ _ n
  have e2 : HT.sIx (nl l).length 0 none = 0 := rfl
  rw [e1, e2]
  unfold nl
  rw [List.drop_zero, Nat.sub_zero, ← List.map_take, List.length_map]
  congr 1
  by_cases z : n ≤ l.length
  · rw [Nat.min_eq_left z]
  · rw [Nat.min_eq_right (by omega), List.take_of_length_le (Nat.le_refl _), List.take_of_length_le (by omega)]
theorem cut_hi (l : List Nat) (n : Nat) : DL.cutD (nl l) (some n) none = nl (l.drop n) := by
  unfold DL.cutD
  have e1 : HT.sIx (nl l).length 0 (some (n : Int)) = min n (nl l).length := HT.sIx_nat _ _ n
  have e2 : HT.sIx (nl l).length (nl l).length none = (nl l).length := rfl
  rw [e1, e2]
  unfold nl
  rw [← List.map_drop, ← List.map_take, List.length_map]
  congr 1
  by_cases z : n ≤ l.length
  · rw [Nat.min_eq_left z, List.take_of_length_le (by rw [List.length_drop]; omega)]
  · rw [Nat.min_eq_right (by omega), List.drop_of_length_le (Nat.le_refl _), List.drop_of_length_le (by omega), List.take_nil]
def rbC : Env' → Mo Bool := mB (mBin (dEqU true) (mVar 2) (mLst (mNew mNil)))
def rbS : Env' → Mo D := mCall cMin2 (mCons (mCall cLen (mCons (mVar 2) mNil)) (mCons (mBin dAddI (mC (.int 1)) (mCall (lenM 2 d__law_draw) (mCons (mVar 0) (mCons (mCall (lenM 2 d__law_pick) (mCons (mVar 0) (mCons (mLst (mNew (mCons (mC (.int 2)) (mCons (mC (.int 3)) (mCons (mC (.int 6)) (mCons (mVar 1) mNil)))))) mNil))) mNil)))) mNil))
def rbW : MS := mSeq (mSet 4 rbS) (mSeq (mPar 5 2 (mCons (mLst (oSlice (mVar 2) mNoP (mPart (mVar 4)))) (mCons (mLst (oSlice (mVar 2) (mPart (mVar 4)) mNoP)) mNil))) (mFor (srcE (mCons (mVar 5) mNil)) (tgTup 2 (tgCons (tgN 6) (tgCons (tgN 7) tgNil))) rbB))
theorem rb_test (l : List Nat) (v0 v1 v3 v4 v5 v6 v7 : SV) : rbC [v0, v1, .val (.lst (nl l)), v3, v4, v5, v6, v7] = retM (!l.isEmpty) := by
  have h1 := eq_nil true (nl l)
  have e : (nl l).isEmpty = l.isEmpty := by cases l <;> rfl
  rw [e] at h1
  have e2 : (l.isEmpty != true) = !l.isEmpty := by cases l.isEmpty <;> rfl
  rw [e2] at h1
  unfold rbC
  generalize dEqU = eqf at *
  generalize nl l = x at *
  generalize (!l.isEmpty) = b at *
  funext q
  simp [runD, env0, mSeq, mIfS, mNot, mB, mIsC, mVar, isC, mRet, mC, mTV, mAnd, mOr, mBin, mFld, dEqF, flV, retM, DL.bindM, mNx, mCall, lenM, mCons, mNil, mTup, mIsT, isT, mSet, mAsg, tgTup, tgCons, tgN, tgNil, mCallO, lenO, runO, mRetO, mLst, mIf, mUn, dNegI, mIsT2, mNoP, mPart, oListC, mDrop, mNever, mNew, h1]
theorem rb_size {N : Nat} (hN : 1 ≤ N ∧ N ≤ 500) {p : Pt} (hp : Good p) {l : List Nat} (hl : l ≠ []) (hl2 : l.length ≤ 500) (v3 v4 v5 v6 v7 : SV) : ∃ (n : Nat) (p' : Pt), rbS [.val .pot, .val (.int (N : Nat)), .val (.lst (nl l)), v3, v4, v5, v6, v7] p = some (.int (n : Nat), p') ∧ 1 ≤ n ∧ n ≤ l.length ∧ Good p' := by
  have hpos : 0 < l.length := List.length_pos_iff.mpr hl
  obtain ⟨d, p1, hd, e1, g1⟩ := law_pick hp (ds := [.int 2, .int 3, .int 6, .int (N : Nat)]) (by simp [runD, env0, mSeq, mIfS, mNot, mB, mIsC, mVar, isC, mRet, mC, mTV, mAnd, mOr, mBin, mFld, dEqF, flV, retM, DL.bindM, mNx, mCall, lenM, mCons, mNil, mTup, mIsT, isT, mSet, mAsg, tgTup, tgCons, tgN, tgNil, mCallO, lenO, runO, mRetO, mLst, mIf, mUn, dNegI, mIsT2, mNoP, mPart, oListC, mDrop, mNever]) (by simp [runD, env0, mSeq, mIfS, mNot, mB, mIsC, mVar, isC, mRet, mC, mTV, mAnd, mOr, mBin, mFld, dEqF, flV, retM, DL.bindM, mNx, mCall, lenM, mCons, mNil, mTup, mIsT, isT, mSet, mAsg, tgTup, tgCons, tgN, tgNil, mCallO, lenO, runO, mRetO, mLst, mIf, mUn, dNegI, mIsT2, mNoP, mPart, oListC, mDrop, mNever])
  obtain ⟨m, hm, rfl⟩ : ∃ m : Nat, (1 ≤ m ∧ m ≤ 500) ∧ d = .int (m : Nat) := by
    simp only [List.mem_cons, List.not_mem_nil, or_false] at hd
    rcases hd with rfl | rfl | rfl | rfl
    · exact ⟨2, by omega, rfl⟩
    · exact ⟨3, by omega, rfl⟩
    · exact ⟨6, by omega, rfl⟩
    · exact ⟨N, hN, rfl⟩
  obtain ⟨r, p2, e2, r2, g2⟩ := law_draw g1 (many := (m : Nat)) (by omega) (by omega)
  have hll := nl_len (l := l)
  refine ⟨if 1 + r < l.length then 1 + r else l.length, p2, ?_, by split <;> omega, by split <;> omega, g2⟩
  generalize nl l = x at *
  unfold rbS
  by_cases z : 1 + r < l.length
  · rw [if_pos z]
    have z2 : (1 : Int) + (r : Int) < (l.length : Int) := by omega
    have e3 : (((1 + r : Nat)) : Int) = 1 + (r : Int) := by omega
    rw [e3]
    simp [runD, env0, mSeq, mIfS, mNot, mB, mIsC, mVar, isC, mRet, mC, mTV, mAnd, mOr, mBin, mFld, dEqF, flV, retM, DL.bindM, mNx, mCall, lenM, mCons, mNil, mTup, mIsT, isT, mSet, mAsg, tgTup, tgCons, tgN, tgNil, mCallO, lenO, runO, mRetO, mLst, mIf, mUn, dNegI, mIsT2, mNoP, mPart, oListC, mDrop, mNever, cMin2, cLen, mNew, e1, e2, dAddI, dII, hll, z2]
  · rw [if_neg z]
    have z2 : ¬ (1 : Int) + (r : Int) < (l.length : Int) := by omega
    simp [runD, env0, mSeq, mIfS, mNot, mB, mIsC, mVar, isC, mRet, mC, mTV, mAnd, mOr, mBin, mFld, dEqF, flV, retM, DL.bindM, mNx, mCall, lenM, mCons, mNil, mTup, mIsT, isT, mSet, mAsg, tgTup, tgCons, tgN, tgNil, mCallO, lenO, runO, mRetO, mLst, mIf, mUn, dNegI, mIsT2, mNoP, mPart, oListC, mDrop, mNever, cMin2, cLen, mNew, e1, e2, dAddI, dII, hll, z2]
theorem rb_while {N : Nat} (hN : 1 ≤ N ∧ N ≤ 500) : ∀ (k : Nat) (done left : List Nat) (h : Nat → Nat) (v4 v5 v6 v7 : SV) (p : Pt), Good p → left.length < k → (done ++ left).Perm (List.range N) → Pd h done → ∃ (h' : Nat → Nat) (w4 w5 w6 w7 : SV) (p' : Pt), whileM rbC rbW k [.val .pot, .val (.int (N : Nat)), .val (.lst (nl left)), .own (tb N h), v4, v5, v6, v7] p = some ((.nx, [.val .pot, .val (.int (N : Nat)), .val (.lst (nl [])), .own (tb N h'), w4, w5, w6, w7]), p') ∧ Pm N h' ∧ Good p'
  | 0, done, left, h, v4, v5, v6, v7, p, _, hk, _, _ => absurd hk (Nat.not_lt_zero _)
  | k + 1, done, left, h, v4, v5, v6, v7, p, hp, hk, hperm, hd => by
    have ht := rb_test left (.val .pot) (.val (.int (N : Nat))) (.own (tb N h)) v4 v5 v6 v7
    by_cases hz : left = []
    · subst hz
      refine ⟨h, v4, v5, v6, v7, p, ?_, ?_, hp⟩
      · rw [while_stop ht]; rfl
      · rw [List.append_nil] at hperm
        exact hd.pm hperm
    · have hlen : left.length ≤ N := by
        have := hperm.length_eq
        rw [List.length_append, List.length_range] at this
        omega
      have hne : (!left.isEmpty) = true := by cases left with
        | nil => exact absurd rfl hz
        | cons _ _ => rfl
      rw [hne] at ht
      obtain ⟨n, p1, e1, n1, n2, g1⟩ := rb_size hN hp hz (by omega) (.own (tb N h)) v4 v5 v6 v7
      have hrl : (left.take n).length = n := by rw [List.length_take]; omega
      have hsplit : done ++ left = (done ++ left.take n) ++ left.drop n := by rw [List.append_assoc, List.take_append_drop]
      have hperm' := hperm
      rw [hsplit] at hperm'
      have hnd : (done ++ left.take n).Nodup := (List.nodup_append.mp (hperm'.nodup_iff.mpr List.nodup_range)).1
      have hlt : ∀ x ∈ left.take n, x < N := fun x hx => List.mem_range.mp (hperm.mem_iff.mp (List.mem_append_right _ (List.mem_of_mem_take hx)))
      have hd' := hd.step hnd
      obtain ⟨w6, w7, e2⟩ := rb_loop hlt (.val .pot) (.val (.int (N : Nat))) (.val (.lst (nl (left.drop n)))) (List.range (left.take n).length) h v6 v7 fun i hi => List.mem_range.mp hi
      have e2' : loopM (mTg (tgTup 2 (tgCons (tgN 6) (tgCons (tgN 7) tgNil))) rbB) (enumD 0 (nl (left.take n))) [.val .pot, .val (.int (N : Nat)), .val (.lst (nl (left.drop n))), .own (tb N h), .val (.int (n : Nat)), .val (.lst (nl (left.take n))), v6, v7] = retM (.nx, [.val .pot, .val (.int (N : Nat)), .val (.lst (nl (left.drop n))), .own (tb N (fupL h (rl (left.take n)))), .val (.int (n : Nat)), .val (.lst (nl (left.take n))), w6, w7]) := by
        rw [enum_row]
        have e3 : (((left.take n).length : Nat) : Int) = (n : Nat) := by rw [hrl]
        rw [e3] at e2
        exact e2
      obtain ⟨h', x4, x5, x6, x7, p2, e4, hpm, g2⟩ := rb_while hN k (done ++ left.take n) (left.drop n) (fupL h (rl (left.take n))) (.val (.int (n : Nat))) (.val (.lst (nl (left.take n)))) w6 w7 p1 g1 (by rw [List.length_drop]; omega) hperm' hd'
      refine ⟨h', x4, x5, x6, x7, p2, ?_, hpm, g2⟩
      have c1 := cut_lo left n
      have c2 := cut_hi left n
      have hb : rbW [.val .pot, .val (.int (N : Nat)), .val (.lst (nl left)), .own (tb N h), v4, v5, v6, v7] p = some ((.nx, [.val .pot, .val (.int (N : Nat)), .val (.lst (nl (left.drop n))), .own (tb N (fupL h (rl (left.take n)))), .val (.int (n : Nat)), .val (.lst (nl (left.take n))), w6, w7]), p1) := by
        unfold rbW
        generalize rbS = rs at *
        generalize rbB = rb at *
        generalize tb N (fupL h (rl (left.take n))) = t2 at *
        generalize tb N h = t at *
        generalize nl (left.take n) = x1 at *
        generalize nl (left.drop n) = x2 at *
        generalize nl left = x at *
        simp [runD, env0, mSeq, mIfS, mNot, mB, mIsC, mVar, isC, mRet, mC, mTV, mAnd, mOr, mBin, mFld, dEqF, flV, retM, DL.bindM, mNx, mCall, lenM, mCons, mNil, mTup, mIsT, isT, mSet, mAsg, tgTup, tgCons, tgN, tgNil, mCallO, lenO, runO, mRetO, mLst, mIf, mUn, dNegI, mIsT2, mNoP, mPart, oListC, mDrop, mNever, e1, mPar, oSlice, c1, c2, mFor, srcE, e2']
      rw [while_goP ht hb]
      exact e4
theorem law_by_rounds {p : Pt} (hp : Good p) {N : Nat} (hN : 1 ≤ N ∧ N ≤ 500) : ∃ (h : Nat → Nat) (p' : Pt), o__law_by_rounds [.pot, .int (N : Nat)] p = some (tb N h, p') ∧ Pm N h ∧ Good p' := by
  obtain ⟨es, p1, e1, hperm, g1⟩ := law_mixed hp (N := N) hN.2
  obtain ⟨h', w4, w5, w6, w7, p2, e2, hpm, g2⟩ := rb_while hN fuelW [] es (fun _ => 0) .un .un .un .un p1 g1 (by have := hperm.length_eq; rw [List.length_range] at this; unfold fuelW; omega) hperm ⟨fun x hx => (nomatch hx), fun x hx => (nomatch hx)⟩
  refine ⟨h', p2, ?_, hpm, g2⟩
  have hm : m__law_by_rounds = mSeq (mParVO 2 3 (mLst (mCallO (lenO 2 o__law_mixed) (mCons (mVar 0) (mCons (mVar 1) mNil)))) (oRep (mLst (mNew (mCons (mC (.int 0)) mNil))) (mVar 1))) (mSeq (mWhile rbC rbW) (mRetX 3)) := rfl
  have hw : mWhile rbC rbW [.val .pot, .val (.int (N : Nat)), .val (.lst (nl es)), .own (tb N fun _ => 0), .un, .un, .un, .un] p1 = some ((.nx, [.val .pot, .val (.int (N : Nat)), .val (.lst (nl [])), .own (tb N h'), w4, w5, w6, w7]), p2) := e2
  have hrep : oRep (mLst (mNew (mCons (mC (.int 0)) mNil))) (mVar 1) [.val .pot, .val (.int (N : Nat)), .un, .un, .un, .un, .un, .un] = retM (tb N fun _ => 0) := by
    have h1 : (N : Int) ≤ 100000 := by omega
    have h2 : (-100000 : Int) ≤ (N : Int) := by omega
    have h3 : N ≤ 100000 := by omega
    have h4 := rep_int N
    have h5 : (List.replicate N (0 : Int)).map D.int = tb N fun _ => 0 := by
      unfold tb
      rw [List.map_replicate, ← List.length_range (n := N), ← List.map_const, List.length_range]
      rfl
    rw [h5] at h4
    generalize (tb N fun _ => 0) = t at *
    funext q
    simp [runD, env0, mSeq, mIfS, mNot, mB, mIsC, mVar, isC, mRet, mC, mTV, mAnd, mOr, mBin, mFld, dEqF, flV, retM, DL.bindM, mNx, mCall, lenM, mCons, mNil, mTup, mIsT, isT, mSet, mAsg, tgTup, tgCons, tgN, tgNil, mCallO, lenO, runO, mRetO, mLst, mIf, mUn, dNegI, mIsT2, mNoP, mPart, oListC, mDrop, mNever, oRep, mNew, h1, h2, h3, h4]
  generalize mWhile rbC rbW = wh at *
  generalize oRep (mLst (mNew (mCons (mC (.int 0)) mNil))) (mVar 1) = rp at *
  generalize tb N h' = t2 at *
  generalize (tb N fun _ => 0) = t at *
  generalize nl es = x at *
  simp [runD, env0, mSeq, mIfS, mNot, mB, mIsC, mVar, isC, mRet, mC, mTV, mAnd, mOr, mBin, mFld, dEqF, flV, retM, DL.bindM, mNx, mCall, lenM, mCons, mNil, mTup, mIsT, isT, mSet, mAsg, tgTup, tgCons, tgN, tgNil, mCallO, lenO, runO, mRetO, mLst, mIf, mUn, dNegI, mIsT2, mNoP, mPart, oListC, mDrop, mNever, o__law_by_rounds, hm, mParVO, e1, hrep, hw, mRetX]
end Q
end

section
set_option Elab.async false
set_option linter.all false
set_option maxRecDepth 100000
set_option maxHeartbeats 4000000
set_option exponentiation.threshold 20000
/-! k47: drawn deals told. -/
namespace Q
open DL PySem PyProof.Rows Pa
def ldB : MS := mSeq (mPar 6 7 (mCons (mCall (lenM 2 d__law_draw) (mCons (mVar 0) (mCons (mVar 2) mNil))) (mCons (mCall (lenM 2 d__law_draw) (mCons (mVar 0) (mCons (mVar 2) mNil))) mNil))) (mSwap 4 6 7 (mTup (mCons (mBin atD (mVarB 4) (mVar 7)) (mCons (mBin atD (mVarB 4) (mVar 6)) mNil))))
theorem sw_tb {N : Nat} (h : Nat → Nat) {a b : Nat} (ha : a < N) (hb : b < N) : ((tb N h).set a (.int (h b : Nat))).set b (.int (h a : Nat)) = tb N fun i => h (sw a b i) := by
  rw [tb_set, tb_set]
  refine tb_congr fun i _ => ?_
  unfold fup sw
  by_cases z : i = b
  · rw [if_pos z]
    by_cases y : i = a
    · rw [if_pos y, ← y, z]
    · rw [if_neg y, if_pos z]
  · rw [if_neg z]
    by_cases y : i = a
    · rw [if_pos y, if_pos y]
    · rw [if_neg y, if_neg y, if_neg z]
theorem ld_loop {N : Nat} (hN : 1 ≤ N ∧ N ≤ 500) (v1 v3 : SV) : ∀ (xs : List D) (h : Nat → Nat) (v5 v6 v7 : SV) (p : Pt), Good p → Pm N h → ∃ (h' : Nat → Nat) (w5 w6 w7 : SV) (p' : Pt), loopM (mTg (tgN 5) ldB) xs [.val .pot, v1, .val (.int (N : Nat)), v3, .own (tb N h), v5, v6, v7] p = some ((.nx, [.val .pot, v1, .val (.int (N : Nat)), v3, .own (tb N h'), w5, w6, w7]), p') ∧ Pm N h' ∧ Good p'
  | [], h, v5, v6, v7, p, hp, hh => ⟨h, v5, v6, v7, p, rfl, hh, hp⟩
  | x :: xs, h, v5, v6, v7, p, hp, hh => by
    obtain ⟨a, p1, e1, r1, g1⟩ := law_draw hp (many := (N : Nat)) (by omega) (by omega)
    obtain ⟨b, p2, e2, r2, g2⟩ := law_draw g1 (many := (N : Nat)) (by omega) (by omega)
    have ha : a < N := by omega
    have hb : b < N := by omega
    obtain ⟨h', w5, w6, w7, p3, e3, hh', g3⟩ := ld_loop hN v1 v3 xs (fun i => h (sw a b i)) (.val x) (.val (.int (a : Nat))) (.val (.int (b : Nat))) p2 g2 (hh.comp (sw_pm ha hb))
    refine ⟨h', w5, w6, w7, p3, ?_, hh', g3⟩
    rw [← e3]
    have h1 := at_tb (f := h) ha
    have h2 := at_tb (f := h) hb
    have x1 : L2.ixN (tb N h).length (a : Int) = some a := ixN_nat (by rw [tb_len]; exact ha)
    have x2 : L2.ixN (tb N h).length (b : Int) = some b := ixN_nat (by rw [tb_len]; exact hb)
    have hs := sw_tb h ha hb
    generalize (tb N fun i => h (sw a b i)) = t2 at *
    generalize tb N h = t at *
    conv => lhs; unfold loopM
    simp [runD, env0, mSeq, mIfS, mNot, mB, mIsC, mVar, isC, mRet, mC, mTV, mAnd, mOr, mBin, mFld, dEqF, flV, retM, DL.bindM, mNx, mCall, lenM, mCons, mNil, mTup, mIsT, isT, mSet, mAsg, tgTup, tgCons, tgN, tgNil, mCallO, lenO, runO, mRetO, mLst, mIf, mUn, dNegI, mIsT2, mNoP, mPart, oListC, mDrop, mNever, mTg, ldB, mPar, e1, e2, mVarB, h1, h2, mSwap, x1, x2, hs]
theorem law_deal {n : Nat} (hn : isP n) {p : Pt} (hp : Good p) : ∃ (h : Nat → Nat) (p' : Pt), o__law_deal [.pot, .int n] p = some (tb (n * n) h, p') ∧ Pm (n * n) h ∧ Good p' := by
  have hsq := sq_le hn.le
  have hpos : 9 ≤ n * n := by rcases hn with rfl | rfl | rfl | rfl <;> decide
  have hmul := mulP n hn.le
  obtain ⟨w, p1, e1, r1, g1⟩ := law_draw hp (many := 4) (by omega) (by omega)
  have hm : m__law_deal = mSeq (mPar 2 3 (mCons (mBin dMulI (mVar 1) (mVar 1)) (mCons (mCall (lenM 2 d__law_draw) (mCons (mVar 0) (mCons (mC (.int 4)) mNil))) mNil))) (mSeq (mIfS (mB (mBin (dEqF false) (mVar 3) (mC (.int 0)))) (mRetO (mCallO (lenO 2 o__law_mixed) (mCons (mVar 0) (mCons (mVar 2) mNil)))) mNx) (mSeq (mIfS (mB (mBin (dEqF false) (mVar 3) (mC (.int 1)))) (mRetO (mCallO (lenO 2 o__law_by_rounds) (mCons (mVar 0) (mCons (mVar 2) mNil)))) mNx) (mSeq (mSetO 4 (oRg1 (mVar 2))) (mSeq (mFor (srcR1 (mCons (mCall (lenM 2 d__law_draw) (mCons (mVar 0) (mCons (mC (.int 5)) mNil))) mNil)) (tgN 5) ldB) (mRetX 4))))) := rfl
  have q0 := eqi (w : Nat) 0
  have q1 := eqi (w : Nat) 1
  generalize hNN : n * n = N at *
  by_cases z0 : w = 0
  · rw [decide_eq_true (by omega)] at q0
    obtain ⟨es, p2, e2, hperm, g2⟩ := law_mixed g1 (N := N) (by omega)
    have hlen := hperm.length_eq
    rw [List.length_range] at hlen
    rw [lf_tb hlen] at e2
    refine ⟨lf es, p2, ?_, lf_pm hperm, g2⟩
    generalize dEqF = eqf at *
    generalize tb N (lf es) = t at *
    simp [runD, env0, mSeq, mIfS, mNot, mB, mIsC, mVar, isC, mRet, mC, mTV, mAnd, mOr, mBin, mFld, dEqF, flV, retM, DL.bindM, mNx, mCall, lenM, mCons, mNil, mTup, mIsT, isT, mSet, mAsg, tgTup, tgCons, tgN, tgNil, mCallO, lenO, runO, mRetO, mLst, mIf, mUn, dNegI, mIsT2, mNoP, mPart, oListC, mDrop, mNever, o__law_deal, hm, mPar, hmul, e1, q0, e2]
  · rw [decide_eq_false (by omega)] at q0
    by_cases z1 : w = 1
    · rw [decide_eq_true (by omega)] at q1
      obtain ⟨h, p2, e2, hh, g2⟩ := law_by_rounds g1 (N := N) (by omega)
      refine ⟨h, p2, ?_, hh, g2⟩
      generalize dEqF = eqf at *
      generalize tb N h = t at *
      simp [runD, env0, mSeq, mIfS, mNot, mB, mIsC, mVar, isC, mRet, mC, mTV, mAnd, mOr, mBin, mFld, dEqF, flV, retM, DL.bindM, mNx, mCall, lenM, mCons, mNil, mTup, mIsT, isT, mSet, mAsg, tgTup, tgCons, tgN, tgNil, mCallO, lenO, runO, mRetO, mLst, mIf, mUn, dNegI, mIsT2, mNoP, mPart, oListC, mDrop, mNever, o__law_deal, hm, mPar, hmul, e1, q0, q1, e2]
    · rw [decide_eq_false (by omega)] at q1
      obtain ⟨r, p2, e2, r2, g2⟩ := law_draw g1 (many := 5) (by omega) (by omega)
      obtain ⟨h', w5, w6, w7, p3, e3, hh, g3⟩ := ld_loop (N := N) (by omega) (.val (.int n)) (.val (.int (w : Nat))) (rngD 0 r) (fun i => i) .un .un .un p2 g2 Pm.id
      refine ⟨h', p3, ?_, hh, g3⟩
      have hr : oRg1 (mVar 2) [.val .pot, .val (.int n), .val (.int (N : Nat)), .val (.int (w : Nat)), .un, .un, .un, .un] = retM (tb N fun i => i) := by
        rw [rg1 (n := N) (by rfl) (by omega), ← tb_id]
      have b1 : (-1000000 : Int) ≤ (r : Int) := by omega
      have b2 : (r : Int) ≤ 1000000 := by omega
      generalize dEqF = eqf at *
      generalize ldB = body at *
      generalize oRg1 (mVar 2) = rg at *
      generalize tb N h' = t2 at *
      generalize (tb N fun i => i) = t at *
      simp [runD, env0, mSeq, mIfS, mNot, mB, mIsC, mVar, isC, mRet, mC, mTV, mAnd, mOr, mBin, mFld, dEqF, flV, retM, DL.bindM, mNx, mCall, lenM, mCons, mNil, mTup, mIsT, isT, mSet, mAsg, tgTup, tgCons, tgN, tgNil, mCallO, lenO, runO, mRetO, mLst, mIf, mUn, dNegI, mIsT2, mNoP, mPart, oListC, mDrop, mNever, o__law_deal, hm, mPar, hmul, e1, q0, q1, mSetO, hr, mFor, srcR1, e2, b1, b2, e3, mRetX]
end Q
end

section
set_option Elab.async false
set_option linter.all false
set_option maxRecDepth 100000
set_option maxHeartbeats 4000000
set_option exponentiation.threshold 20000
/-! k47: when all are home again, told. -/
namespace Q
open DL PySem PyProof.Rows Pa
theorem modN (a : Nat) {b : Nat} (hb : 0 < b) : dModI (.int (a : Nat)) (.int (b : Nat)) = retM (.int ((a % b : Nat) : Int)) := by
  have h : (0 : Int) < (b : Int) := by omega
  rw [Int.natCast_emod]
  funext q
  simp [runD, env0, mSeq, mIfS, mNot, mB, mIsC, mVar, isC, mRet, mC, mTV, mAnd, mOr, mBin, mFld, dEqF, flV, retM, DL.bindM, mNx, mCall, lenM, mCons, mNil, mTup, mIsT, isT, mSet, mAsg, tgTup, tgCons, tgN, tgNil, mCallO, lenO, runO, mRetO, mLst, mIf, mUn, dNegI, mIsT2, mNoP, mPart, oListC, mDrop, mNever, dModI, dII, hb]
theorem divN (a : Nat) {b : Nat} (hb : 0 < b) (hz : b < bigN) : dDivI (.int (a : Nat)) (.int (b : Nat)) = retM (.int ((a / b : Nat) : Int)) := by
  have e : ((a : Nat) : Int).fdiv (b : Int) = ((a / b : Nat) : Int) := by
    rw [Int.fdiv_eq_ediv_of_nonneg _ (by omega)]
    rfl
  have h1 : ¬ b = 0 := by omega
  rw [← e]
  funext q
  simp [runD, env0, mSeq, mIfS, mNot, mB, mIsC, mVar, isC, mRet, mC, mTV, mAnd, mOr, mBin, mFld, dEqF, flV, retM, DL.bindM, mNx, mCall, lenM, mCons, mNil, mTup, mIsT, isT, mSet, mAsg, tgTup, tgCons, tgN, tgNil, mCallO, lenO, runO, mRetO, mLst, mIf, mUn, dNegI, mIsT2, mNoP, mPart, oListC, mDrop, mNever, dDivI, dII, h1, hz]
theorem mulN {a b : Nat} (ha : a < bigN) (hb : b < bigN) : dMulI (.int (a : Nat)) (.int (b : Nat)) = retM (.int ((a * b : Nat) : Int)) := by
  rw [Int.natCast_mul]
  funext q
  simp [runD, env0, mSeq, mIfS, mNot, mB, mIsC, mVar, isC, mRet, mC, mTV, mAnd, mOr, mBin, mFld, dEqF, flV, retM, DL.bindM, mNx, mCall, lenM, mCons, mNil, mTup, mIsT, isT, mSet, mAsg, tgTup, tgCons, tgN, tgNil, mCallO, lenO, runO, mRetO, mLst, mIf, mUn, dNegI, mIsT2, mNoP, mPart, oListC, mDrop, mNever, dMulI, dII, ha, hb]
theorem neqi (a b : Int) : dEqF true (.int a) (.int b) = retM (.bl (!decide (a = b))) := by
  simp [runD, env0, mSeq, mIfS, mNot, mB, mIsC, mVar, isC, mRet, mC, mTV, mAnd, mOr, mBin, mFld, dEqF, flV, retM, DL.bindM, mNx, mCall, lenM, mCons, mNil, mTup, mIsT, isT, mSet, mAsg, tgTup, tgCons, tgN, tgNil, mCallO, lenO, runO, mRetO, mLst, mIf, mUn, dNegI, mIsT2, mNoP, mPart, oListC, mDrop, mNever, L2.scal]
theorem big121 : 121 ^ 121 < bigN := by unfold bigN; decide +kernel
/-! ### the program's -/
def cmC : Env' → Mo Bool := mB (mBin (dEqF true) (mBin dModI (mCall cInt (mCons (mVar 1) mNil)) (mVar 2)) (mC (.int 0)))
def cmW : MS := mSet 1 (mBin dAddI (mVar 1) (mVar 3))
def cmB : MS := mSeq (mSet 3 (mVar 1)) (mWhile cmC cmW)
theorem cm_test (a : Nat) {b : Nat} (hb : 0 < b) (v0 v3 : SV) : cmC [v0, .val (.int (a : Nat)), .val (.int (b : Nat)), v3] = retM (!decide (b ∣ a)) := by
  have h1 := modN a hb
  have h2 := neqi ((a % b : Nat) : Int) 0
  have e : decide (((a % b : Nat) : Int) = 0) = decide (b ∣ a) := decide_eq_decide.mpr ⟨fun h => Nat.dvd_of_mod_eq_zero (by omega), fun h => by rw [Nat.mod_eq_zero_of_dvd h]; rfl⟩
  rw [e] at h2
  unfold cmC
  generalize dEqF = eqf at *
  generalize dModI = md at *
  generalize ((a % b : Nat) : Int) = r at *
  generalize decide (b ∣ a) = dd at *
  funext q
  simp [runD, env0, mSeq, mIfS, mNot, mB, mIsC, mVar, isC, mRet, mC, mTV, mAnd, mOr, mBin, mFld, dEqF, flV, retM, DL.bindM, mNx, mCall, lenM, mCons, mNil, mTup, mIsT, isT, mSet, mAsg, tgTup, tgCons, tgN, tgNil, mCallO, lenO, runO, mRetO, mLst, mIf, mUn, dNegI, mIsT2, mNoP, mPart, oListC, mDrop, mNever, cInt, h1, h2]
theorem cm_while {m l c : Nat} (hm : 0 < m) (hl : 0 < l) (hc : m * c = Nat.lcm m l) (v0 : SV) : ∀ (k s : Nat), 1 ≤ s → s ≤ c → c - s < k → whileM cmC cmW k [v0, .val (.int (m * s : Nat)), .val (.int (l : Nat)), .val (.int (m : Nat))] = retM (.nx, [v0, .val (.int (m * c : Nat)), .val (.int (l : Nat)), .val (.int (m : Nat))])
  | 0, s, _, _, hk => absurd hk (Nat.not_lt_zero _)
  | k + 1, s, h1, h2, hk => by
    have ht := cm_test (m * s) hl v0 (.val (.int (m : Nat)))
    by_cases z : l ∣ m * s
    · have h3 : m * c ∣ m * s := by rw [hc]; exact Nat.lcm_dvd (Nat.dvd_mul_right m s) z
      have h4 : c ∣ s := Nat.dvd_of_mul_dvd_mul_left hm h3
      have h5 : s = c := Nat.le_antisymm h2 (Nat.le_of_dvd h1 h4)
      rw [decide_eq_true z] at ht
      subst h5
      exact while_stop ht
    · rw [decide_eq_false z] at ht
      have h6 : s ≠ c := fun e => z (by rw [e, hc]; exact Nat.dvd_lcm_right m l)
      have ih := cm_while hm hl hc v0 k (s + 1) (by omega) (by omega) (by omega)
      have hb : cmW [v0, .val (.int (m * s : Nat)), .val (.int (l : Nat)), .val (.int (m : Nat))] = retM (.nx, [v0, .val (.int (m * (s + 1) : Nat)), .val (.int (l : Nat)), .val (.int (m : Nat))]) := by
        have e : ((m * (s + 1) : Nat) : Int) = ((m * s : Nat) : Int) + (m : Int) := by rw [Nat.mul_succ, Int.natCast_add]
        rw [e]
        generalize ((m * s : Nat) : Int) = x at *
        funext q
        simp [runD, env0, mSeq, mIfS, mNot, mB, mIsC, mVar, isC, mRet, mC, mTV, mAnd, mOr, mBin, mFld, dEqF, flV, retM, DL.bindM, mNx, mCall, lenM, mCons, mNil, mTup, mIsT, isT, mSet, mAsg, tgTup, tgCons, tgN, tgNil, mCallO, lenO, runO, mRetO, mLst, mIf, mUn, dNegI, mIsT2, mNoP, mPart, oListC, mDrop, mNever, cmW, dAddI, dII]
      rw [while_go ht hb]
      exact ih
theorem cm_body {m l : Nat} (hm : 0 < m) (hl : 0 < l) (hz : l ≤ 1000) (v0 v3 : SV) : cmB [v0, .val (.int (m : Nat)), .val (.int (l : Nat)), v3] = retM (.nx, [v0, .val (.int (Nat.lcm m l : Nat)), .val (.int (l : Nat)), .val (.int (m : Nat))]) := by
  have hc : m * (Nat.lcm m l / m) = Nat.lcm m l := Nat.mul_div_cancel' (Nat.dvd_lcm_left m l)
  have hcl : Nat.lcm m l / m ≤ l := by
    have := lcm_le hm hl
    rw [← hc] at this
    exact Nat.le_of_mul_le_mul_left this hm
  have hc1 : 1 ≤ Nat.lcm m l / m := by
    have : 0 < Nat.lcm m l := Nat.lcm_pos hm hl
    rw [← hc] at this
    exact Nat.pos_of_mul_pos_left this
  have h := cm_while hm hl hc v0 fuelW 1 (by omega) hc1 (by unfold fuelW; omega)
  rw [hc, Nat.mul_one] at h
  have h' : mWhile cmC cmW [v0, .val (.int (m : Nat)), .val (.int (l : Nat)), .val (.int (m : Nat))] = _ := h
  unfold cmB
  generalize mWhile cmC cmW = wh at *
  generalize Nat.lcm m l = x at *
  funext q
  simp [runD, env0, mSeq, mIfS, mNot, mB, mIsC, mVar, isC, mRet, mC, mTV, mAnd, mOr, mBin, mFld, dEqF, flV, retM, DL.bindM, mNx, mCall, lenM, mCons, mNil, mTup, mIsT, isT, mSet, mAsg, tgTup, tgCons, tgN, tgNil, mCallO, lenO, runO, mRetO, mLst, mIf, mUn, dNegI, mIsT2, mNoP, mPart, oListC, mDrop, mNever, h']
theorem cm_loop (v0 : SV) : ∀ (ls : List Nat) (m : Nat) (v2 v3 : SV), 0 < m → (∀ l ∈ ls, 0 < l ∧ l ≤ 1000) → ∃ w2 w3, loopM (mTg (tgN 2) cmB) (nl ls) [v0, .val (.int (m : Nat)), v2, v3] = retM (.nx, [v0, .val (.int (ordF m ls : Nat)), w2, w3])
  | [], m, v2, v3, _, _ => ⟨v2, v3, rfl⟩
  | l :: ls, m, v2, v3, hm, hl => by
    obtain ⟨h1, h2⟩ := hl l List.mem_cons_self
    obtain ⟨w2, w3, e⟩ := cm_loop v0 ls (Nat.lcm m l) (.val (.int (l : Nat))) (.val (.int (m : Nat))) (Nat.lcm_pos hm h1) fun l' h => hl l' (List.mem_cons_of_mem _ h)
    refine ⟨w2, w3, ?_⟩
    have e0 : ordF m (l :: ls) = ordF (Nat.lcm m l) ls := rfl
    have en : nl (l :: ls) = .int (l : Nat) :: nl ls := rfl
    have hb := cm_body hm h1 h2 v0 v3
    rw [e0, ← e, en]
    generalize cmB = body at *
    generalize Nat.lcm m l = x at *
    funext q
    conv => lhs; unfold loopM
    simp [runD, env0, mSeq, mIfS, mNot, mB, mIsC, mVar, isC, mRet, mC, mTV, mAnd, mOr, mBin, mFld, dEqF, flV, retM, DL.bindM, mNx, mCall, lenM, mCons, mNil, mTup, mIsT, isT, mSet, mAsg, tgTup, tgCons, tgN, tgNil, mCallO, lenO, runO, mRetO, mLst, mIf, mUn, dNegI, mIsT2, mNoP, mPart, oListC, mDrop, mNever, mTg, hb]
theorem common_multiple_eq {ls : List Nat} (hl : ∀ l ∈ ls, 0 < l ∧ l ≤ 1000) : d_common_multiple [.lst (nl ls)] = retM (.int (ordF 1 ls : Nat)) := by
  obtain ⟨w2, w3, e⟩ := cm_loop (.val (.lst (nl ls))) ls 1 .un .un (by decide) hl
  have e1 : ((1 : Nat) : Int) = 1 := rfl
  rw [e1] at e
  have hm : m_common_multiple = mSeq (mSet 1 (mC (.int 1))) (mSeq (mFor (srcL (mVar 0)) (tgN 2) cmB) (mRet (mVar 1))) := rfl
  generalize cmB = body at *
  generalize nl ls = x at *
  generalize ordF 1 ls = y at *
  funext q
  simp [runD, env0, mSeq, mIfS, mNot, mB, mIsC, mVar, isC, mRet, mC, mTV, mAnd, mOr, mBin, mFld, dEqF, flV, retM, DL.bindM, mNx, mCall, lenM, mCons, mNil, mTup, mIsT, isT, mSet, mAsg, tgTup, tgCons, tgN, tgNil, mCallO, lenO, runO, mRetO, mLst, mIf, mUn, dNegI, mIsT2, mNoP, mPart, oListC, mDrop, mNever, d_common_multiple, hm, mFor, srcL, e]
/-! ### the law's -/
def lcC : Env' → Mo Bool := mB (mBin dGt (mVar 1) (mC (.int 0)))
def lcB : MS := mPar 0 1 (mCons (mVar 1) (mCons (mBin dModI (mCall cInt (mCons (mVar 0) mNil)) (mVar 1)) mNil))
theorem lc_while : ∀ (k a b : Nat), b < k → whileM lcC lcB k [.val (.int (a : Nat)), .val (.int (b : Nat))] = retM (.nx, [.val (.int (Nat.gcd a b : Nat)), .val (.int (0 : Nat))])
  | 0, a, b, h => absurd h (Nat.not_lt_zero _)
  | k + 1, a, b, h => by
    have ht : lcC [.val (.int (a : Nat)), .val (.int (b : Nat))] = retM (decide (0 < b)) := by
      by_cases z : 0 < b
      · funext q; simp [runD, env0, mSeq, mIfS, mNot, mB, mIsC, mVar, isC, mRet, mC, mTV, mAnd, mOr, mBin, mFld, dEqF, flV, retM, DL.bindM, mNx, mCall, lenM, mCons, mNil, mTup, mIsT, isT, mSet, mAsg, tgTup, tgCons, tgN, tgNil, mCallO, lenO, runO, mRetO, mLst, mIf, mUn, dNegI, mIsT2, mNoP, mPart, oListC, mDrop, mNever, lcC, dGt, dII, z]
      · funext q; simp [runD, env0, mSeq, mIfS, mNot, mB, mIsC, mVar, isC, mRet, mC, mTV, mAnd, mOr, mBin, mFld, dEqF, flV, retM, DL.bindM, mNx, mCall, lenM, mCons, mNil, mTup, mIsT, isT, mSet, mAsg, tgTup, tgCons, tgN, tgNil, mCallO, lenO, runO, mRetO, mLst, mIf, mUn, dNegI, mIsT2, mNoP, mPart, oListC, mDrop, mNever, lcC, dGt, dII, z]
    by_cases z : 0 < b
    · rw [decide_eq_true z] at ht
      have ih := lc_while k b (a % b) (by have := Nat.mod_lt a z; omega)
      have hg : Nat.gcd b (a % b) = Nat.gcd a b := by rw [Nat.gcd_comm b, ← Nat.gcd_rec, Nat.gcd_comm]
      rw [hg] at ih
      have hb : lcB [.val (.int (a : Nat)), .val (.int (b : Nat))] = retM (.nx, [.val (.int (b : Nat)), .val (.int (a % b : Nat))]) := by
        have h1 := modN a z
        unfold lcB
        generalize ((a % b : Nat) : Int) = r at *
        generalize dModI = md at *
        funext q
        simp [runD, env0, mSeq, mIfS, mNot, mB, mIsC, mVar, isC, mRet, mC, mTV, mAnd, mOr, mBin, mFld, dEqF, flV, retM, DL.bindM, mNx, mCall, lenM, mCons, mNil, mTup, mIsT, isT, mSet, mAsg, tgTup, tgCons, tgN, tgNil, mCallO, lenO, runO, mRetO, mLst, mIf, mUn, dNegI, mIsT2, mNoP, mPart, oListC, mDrop, mNever, mPar, cInt, h1]
      rw [while_go ht hb]
      exact ih
    · rw [decide_eq_false z] at ht
      have hb : b = 0 := by omega
      subst hb
      rw [Nat.gcd_zero_right]
      exact while_stop ht
theorem law_common_eq (a : Nat) {b : Nat} (hb : b ≤ 1000) : d__law_common [.int (a : Nat), .int (b : Nat)] = retM (.int (Nat.gcd a b : Nat)) := by
  have h := lc_while fuelW a b (by unfold fuelW; omega)
  have h' : mWhile lcC lcB [.val (.int (a : Nat)), .val (.int (b : Nat))] = _ := h
  have hm : m__law_common = mSeq (mWhile lcC lcB) (mRet (mVar 0)) := rfl
  generalize mWhile lcC lcB = wh at *
  generalize Nat.gcd a b = g at *
  funext q
  simp [runD, env0, mSeq, mIfS, mNot, mB, mIsC, mVar, isC, mRet, mC, mTV, mAnd, mOr, mBin, mFld, dEqF, flV, retM, DL.bindM, mNx, mCall, lenM, mCons, mNil, mTup, mIsT, isT, mSet, mAsg, tgTup, tgCons, tgN, tgNil, mCallO, lenO, runO, mRetO, mLst, mIf, mUn, dNegI, mIsT2, mNoP, mPart, oListC, mDrop, mNever, d__law_common, hm, h']
def loB : MS := mSet 1 (mBin dMulI (mVar 1) (mBin dDivI (mCall cLen (mCons (mVar 2) mNil)) (mCall (lenM 2 d__law_common) (mCons (mVar 1) (mCons (mCall cLen (mCons (mVar 2) mNil)) mNil)))))
theorem lo_body {m : Nat} {r : List Nat} (hm : m < bigN) (hr : 0 < r.length) (hz : r.length ≤ 1000) (v0 : SV) : loB [v0, .val (.int (m : Nat)), .val (.lst (nl r))] = retM (.nx, [v0, .val (.int (Nat.lcm m r.length : Nat)), .val (.lst (nl r))]) := by
  have h1 := law_common_eq m hz
  have hg : 0 < Nat.gcd m r.length := Nat.gcd_pos_of_pos_right _ hr
  have hb := big121
  have hgz : Nat.gcd m r.length ≤ r.length := Nat.le_of_dvd hr (Nat.gcd_dvd_right _ _)
  have h1000 : 1000 < bigN := Nat.lt_trans (by decide +kernel : 1000 < 121 ^ 121) hb
  have h2 := divN r.length hg (by omega)
  have hd : r.length / Nat.gcd m r.length ≤ r.length := Nat.div_le_self _ _
  have h3 := mulN (a := m) (b := r.length / Nat.gcd m r.length) hm (by omega)
  have e : m * (r.length / Nat.gcd m r.length) = Nat.lcm m r.length := by
    unfold Nat.lcm
    rw [Nat.mul_div_assoc _ (Nat.gcd_dvd_right _ _)]
  rw [e] at h3
  have hl := nl_len (l := r)
  unfold loB
  generalize dMulI = mu at *
  generalize dDivI = dv at *
  generalize ((r.length / Nat.gcd m r.length : Nat) : Int) = x at *
  generalize ((Nat.lcm m r.length : Nat) : Int) = y at *
  generalize ((Nat.gcd m r.length : Nat) : Int) = z at *
  generalize nl r = rr at *
  funext q
  simp [runD, env0, mSeq, mIfS, mNot, mB, mIsC, mVar, isC, mRet, mC, mTV, mAnd, mOr, mBin, mFld, dEqF, flV, retM, DL.bindM, mNx, mCall, lenM, mCons, mNil, mTup, mIsT, isT, mSet, mAsg, tgTup, tgCons, tgN, tgNil, mCallO, lenO, runO, mRetO, mLst, mIf, mUn, dNegI, mIsT2, mNoP, mPart, oListC, mDrop, mNever, cLen, hl, h1, h2, h3]
theorem lo_loop {c : Nat} (v0 : SV) : ∀ (rows : List (List Nat)) (m : Nat) (v2 : SV), 0 < m → (∀ r ∈ rows, 0 < r.length ∧ r.length ≤ c) → c ≤ 1000 → m * c ^ rows.length < bigN → ∃ w2, loopM (mTg (tgN 2) loB) (rowsD rows) [v0, .val (.int (m : Nat)), v2] = retM (.nx, [v0, .val (.int (ordF m (lens rows) : Nat)), w2])
  | [], m, v2, _, _, _, _ => ⟨v2, rfl⟩
  | r :: rows, m, v2, hm, hr, hc, hz => by
    obtain ⟨h1, h2⟩ := hr r List.mem_cons_self
    have hc1 : 1 ≤ c := by omega
    have hpow : 1 ≤ c ^ rows.length := Nat.one_le_pow _ _ hc1
    rw [List.length_cons, Nat.pow_succ', ← Nat.mul_assoc] at hz
    have hl : Nat.lcm m r.length ≤ m * c := Nat.le_trans (lcm_le hm h1) (Nat.mul_le_mul_left m h2)
    have hmz : m < bigN := Nat.lt_of_le_of_lt (Nat.le_trans (Nat.le_mul_of_pos_right m hc1) (Nat.le_mul_of_pos_right _ hpow)) hz
    obtain ⟨w2, e⟩ := lo_loop v0 rows (Nat.lcm m r.length) (.val (.lst (nl r))) (Nat.lcm_pos hm h1) (fun r' h => hr r' (List.mem_cons_of_mem _ h)) hc (Nat.lt_of_le_of_lt (Nat.mul_le_mul_right _ hl) hz)
    refine ⟨w2, ?_⟩
    have e0 : ordF m (lens (r :: rows)) = ordF (Nat.lcm m r.length) (lens rows) := rfl
    have en : rowsD (r :: rows) = .lst (nl r) :: rowsD rows := rfl
    have hb := lo_body hmz h1 (by omega) v0
    rw [e0, ← e, en]
    generalize loB = body at *
    generalize Nat.lcm m r.length = x at *
    funext q
    conv => lhs; unfold loopM
    simp [runD, env0, mSeq, mIfS, mNot, mB, mIsC, mVar, isC, mRet, mC, mTV, mAnd, mOr, mBin, mFld, dEqF, flV, retM, DL.bindM, mNx, mCall, lenM, mCons, mNil, mTup, mIsT, isT, mSet, mAsg, tgTup, tgCons, tgN, tgNil, mCallO, lenO, runO, mRetO, mLst, mIf, mUn, dNegI, mIsT2, mNoP, mPart, oListC, mDrop, mNever, mTg, hb]
theorem law_order_eq {N : Nat} {f : Nat → Nat} {rows : List (List Nat)} (c : Cyc N f rows) (hN : N ≤ 121) (hN0 : 0 < N) : d__law_order [.lst (rowsD rows)] = retM (.int (ord rows : Nat)) := by
  have hpow : N ^ rows.length ≤ 121 ^ 121 := Nat.le_trans (Nat.pow_le_pow_left hN _) (Nat.pow_le_pow_right (by decide) (Nat.le_trans c.le hN))
  have hb := big121
  obtain ⟨w2, e⟩ := lo_loop (c := N) (.val (.lst (rowsD rows))) rows 1 .un (by decide) (fun r hr => ⟨(c.rw' r hr).pos, c.len_le _ (List.mem_map.mpr ⟨r, hr, rfl⟩)⟩) (by omega) (by rw [Nat.one_mul]; exact Nat.lt_of_le_of_lt hpow hb)
  have e1 : ((1 : Nat) : Int) = 1 := rfl
  rw [e1] at e
  have e' : loopM (mTg (tgN 2) loB) (rowsD rows) [.val (.lst (rowsD rows)), .val (.int 1), .un] = retM (.nx, [.val (.lst (rowsD rows)), .val (.int (ord rows : Nat)), w2]) := e
  have hm : m__law_order = mSeq (mSet 1 (mC (.int 1))) (mSeq (mFor (srcL (mVar 0)) (tgN 2) loB) (mRet (mVar 1))) := rfl
  generalize loB = body at *
  generalize rowsD rows = x at *
  generalize ord rows = y at *
  funext q
  simp [runD, env0, mSeq, mIfS, mNot, mB, mIsC, mVar, isC, mRet, mC, mTV, mAnd, mOr, mBin, mFld, dEqF, flV, retM, DL.bindM, mNx, mCall, lenM, mCons, mNil, mTup, mIsT, isT, mSet, mAsg, tgTup, tgCons, tgN, tgNil, mCallO, lenO, runO, mRetO, mLst, mIf, mUn, dNegI, mIsT2, mNoP, mPart, oListC, mDrop, mNever, d__law_order, hm, mFor, srcL, e']
end Q
end

section
set_option Elab.async false
set_option linter.all false
set_option maxRecDepth 100000
set_option maxHeartbeats 4000000
set_option exponentiation.threshold 20000
/-! k47: so often done, told. -/
namespace Q
open DL PySem PyProof.Rows Pa
theorem pw_two (f : Nat → Nat) : ∀ k i, pw (fun i => f (f i)) k i = pw f (2 * k) i
  | 0, i => rfl
  | k + 1, i => by
    show f (f (pw (fun i => f (f i)) k i)) = _
    rw [pw_two f k i, show 2 * (k + 1) = 1 + (1 + 2 * k) by omega, pw_add f 1, pw_add f 1]
    rfl
def doC : Env' → Mo Bool := mB (mBin dGt (mVar 1) (mC (.int 0)))
def doI : MS := mIfS (mB (mBin (dEqF false) (mBin dModI (mCall cInt (mCons (mVar 1) mNil)) (mC (.int 2))) (mC (.int 1)))) (mFrz 2 (mSetO 2 (mCallO (lenO 2 o_behind_table) (mCons (mVar 3) (mCons (mVar 2) mNil))))) mNx
def doB : MS := mSeq doI (mPar 3 1 (mCons (mLst (mCallO (lenO 2 o_behind_table) (mCons (mVar 3) (mCons (mVar 3) mNil)))) (mCons (mBin dDivI (mVar 1) (mC (.int 2))) mNil)))
theorem big2 : 2 < bigN := Nat.lt_trans (by decide +kernel : 2 < 121 ^ 121) big121
theorem do_if {N : Nat} (hN : N ≤ 1000) {fo tw : Nat → Nat} (hfo : ∀ i, i < N → fo i < N) (m : Nat) (v0 : SV) : doI [v0, .val (.int (m : Nat)), .own (tb N fo), .val (.lst (tb N tw))] = retM (.nx, [v0, .val (.int (m : Nat)), .own (tb N fun i => pw tw (m % 2) (fo i)), .val (.lst (tb N tw))]) := by
  have h1 := modN m (b := 2) (by decide)
  have e2 : ((2 : Nat) : Int) = 2 := rfl
  rw [e2] at h1
  have h2 := eqi ((m % 2 : Nat) : Int) 1
  have h3 := behind_tb (N := N) (f := tw) (g := fo) hN hfo
  unfold doI
  rcases Nat.mod_two_eq_zero_or_one m with z | z
  · rw [z] at h1 h2 ⊢
    have e : (tb N fun i => pw tw 0 (fo i)) = tb N fo := rfl
    rw [e]
    rw [decide_eq_false (by decide)] at h2
    generalize dEqF = eqf at *
    generalize dModI = md at *
    generalize tb N fo = t at *
    generalize tb N tw = t2 at *
    generalize ((0 : Nat) : Int) = r at *
    funext q
    simp [runD, env0, mSeq, mIfS, mNot, mB, mIsC, mVar, isC, mRet, mC, mTV, mAnd, mOr, mBin, mFld, dEqF, flV, retM, DL.bindM, mNx, mCall, lenM, mCons, mNil, mTup, mIsT, isT, mSet, mAsg, tgTup, tgCons, tgN, tgNil, mCallO, lenO, runO, mRetO, mLst, mIf, mUn, dNegI, mIsT2, mNoP, mPart, oListC, mDrop, mNever, cInt, h1, h2]
  · rw [z] at h1 h2 ⊢
    have e : (tb N fun i => pw tw 1 (fo i)) = tb N fun i => tw (fo i) := rfl
    rw [e]
    rw [decide_eq_true (by decide)] at h2
    generalize dEqF = eqf at *
    generalize dModI = md at *
    generalize (tb N fun i => tw (fo i)) = t3 at *
    generalize tb N fo = t at *
    generalize tb N tw = t2 at *
    generalize ((1 : Nat) : Int) = r at *
    funext q
    simp [runD, env0, mSeq, mIfS, mNot, mB, mIsC, mVar, isC, mRet, mC, mTV, mAnd, mOr, mBin, mFld, dEqF, flV, retM, DL.bindM, mNx, mCall, lenM, mCons, mNil, mTup, mIsT, isT, mSet, mAsg, tgTup, tgCons, tgN, tgNil, mCallO, lenO, runO, mRetO, mLst, mIf, mUn, dNegI, mIsT2, mNoP, mPart, oListC, mDrop, mNever, cInt, h1, h2, mFrz, mSetO, h3]
theorem do_while {N : Nat} (hN : N ≤ 1000) (v0 : SV) : ∀ (k m : Nat) (fo tw : Nat → Nat), m < k → (∀ i, i < N → fo i < N) → Pm N tw → ∃ w3, whileM doC doB k [v0, .val (.int (m : Nat)), .own (tb N fo), .val (.lst (tb N tw))] = retM (.nx, [v0, .val (.int (0 : Nat)), .own (tb N fun i => pw tw m (fo i)), w3])
  | 0, m, fo, tw, h, _, _ => absurd h (Nat.not_lt_zero _)
  | k + 1, m, fo, tw, h, hfo, htw => by
    have ht : doC [v0, .val (.int (m : Nat)), .own (tb N fo), .val (.lst (tb N tw))] = retM (decide (0 < m)) := by
      generalize tb N fo = t at *
      generalize tb N tw = t2 at *
      by_cases z : 0 < m
      · funext q; simp [runD, env0, mSeq, mIfS, mNot, mB, mIsC, mVar, isC, mRet, mC, mTV, mAnd, mOr, mBin, mFld, dEqF, flV, retM, DL.bindM, mNx, mCall, lenM, mCons, mNil, mTup, mIsT, isT, mSet, mAsg, tgTup, tgCons, tgN, tgNil, mCallO, lenO, runO, mRetO, mLst, mIf, mUn, dNegI, mIsT2, mNoP, mPart, oListC, mDrop, mNever, doC, dGt, dII, z]
      · funext q; simp [runD, env0, mSeq, mIfS, mNot, mB, mIsC, mVar, isC, mRet, mC, mTV, mAnd, mOr, mBin, mFld, dEqF, flV, retM, DL.bindM, mNx, mCall, lenM, mCons, mNil, mTup, mIsT, isT, mSet, mAsg, tgTup, tgCons, tgN, tgNil, mCallO, lenO, runO, mRetO, mLst, mIf, mUn, dNegI, mIsT2, mNoP, mPart, oListC, mDrop, mNever, doC, dGt, dII, z]
    by_cases z : 0 < m
    · rw [decide_eq_true z] at ht
      obtain ⟨w3, e⟩ := do_while hN v0 k (m / 2) (fun i => pw tw (m % 2) (fo i)) (fun i => tw (tw i)) (by omega) (fun i hi => (pw_pm htw _).lt _ (hfo i hi)) (htw.comp htw)
      refine ⟨w3, ?_⟩
      have e1 : (tb N fun i => pw (fun i => tw (tw i)) (m / 2) (pw tw (m % 2) (fo i))) = tb N fun i => pw tw m (fo i) := tb_congr fun i _ => by
        rw [pw_two, ← pw_add, Nat.div_add_mod]
      rw [e1] at e
      rw [← e]
      have h1 := do_if hN hfo (tw := tw) m v0
      have h2 := behind_tb (N := N) (f := tw) (g := tw) hN htw.lt
      have h3 := divN m (b := 2) (by decide) big2
      have e2 : ((2 : Nat) : Int) = 2 := rfl
      rw [e2] at h3
      refine while_go ht ?_
      unfold doB
      generalize doI = di at *
      generalize dDivI = dv at *
      generalize ((m / 2 : Nat) : Int) = r at *
      generalize (tb N fun i => tw (tw i)) = t4 at *
      generalize (tb N fun i => pw tw (m % 2) (fo i)) = t3 at *
      generalize tb N fo = t at *
      generalize tb N tw = t2 at *
      funext q
      simp [runD, env0, mSeq, mIfS, mNot, mB, mIsC, mVar, isC, mRet, mC, mTV, mAnd, mOr, mBin, mFld, dEqF, flV, retM, DL.bindM, mNx, mCall, lenM, mCons, mNil, mTup, mIsT, isT, mSet, mAsg, tgTup, tgCons, tgN, tgNil, mCallO, lenO, runO, mRetO, mLst, mIf, mUn, dNegI, mIsT2, mNoP, mPart, oListC, mDrop, mNever, h1, mPar, h2, h3]
    · have hm : m = 0 := by omega
      subst hm
      rw [decide_eq_false z] at ht
      exact ⟨_, while_stop ht⟩
theorem done_of_eq {N : Nat} (hN : N ≤ 1000) {f : Nat → Nat} (hf : Pm N f) {m : Nat} (hm : m ≤ 1000000) : o_done_of [.lst (tb N f), .int (m : Nat)] = retM (tb N (pw f m)) := by
  obtain ⟨w3, e⟩ := do_while hN (.val (.lst (tb N f))) fuelW m (fun i => i) f (by unfold fuelW; omega) (fun i hi => hi) hf
  have e' : mWhile doC doB [.val (.lst (tb N f)), .val (.int (m : Nat)), .own (tb N fun i => i), .val (.lst (tb N f))] = retM (.nx, [.val (.lst (tb N f)), .val (.int (0 : Nat)), .own (tb N (pw f m)), w3]) := e
  have hlen : (tb N f).length = N := tb_len
  have hr : oRg1 (mCall cLen (mCons (mVar 0) mNil)) [.val (.lst (tb N f)), .val (.int (m : Nat)), .un, .un] = retM (tb N fun i => i) := by
    rw [rg1 (n := N) (by generalize tb N f = t at *; funext q; simp [runD, env0, mSeq, mIfS, mNot, mB, mIsC, mVar, isC, mRet, mC, mTV, mAnd, mOr, mBin, mFld, dEqF, flV, retM, DL.bindM, mNx, mCall, lenM, mCons, mNil, mTup, mIsT, isT, mSet, mAsg, tgTup, tgCons, tgN, tgNil, mCallO, lenO, runO, mRetO, mLst, mIf, mUn, dNegI, mIsT2, mNoP, mPart, oListC, mDrop, mNever, cLen, hlen]) hN, ← tb_id]
  have hmm : m_done_of = mSeq (mParOV 2 3 (oRg1 (mCall cLen (mCons (mVar 0) mNil))) (mVar 0)) (mSeq (mWhile doC doB) (mRetX 2)) := rfl
  generalize mWhile doC doB = wh at *
  generalize oRg1 (mCall cLen (mCons (mVar 0) mNil)) = rg at *
  generalize (tb N fun i => i) = t0 at *
  generalize tb N (pw f m) = t1 at *
  generalize tb N f = t at *
  funext q
  simp [runD, env0, mSeq, mIfS, mNot, mB, mIsC, mVar, isC, mRet, mC, mTV, mAnd, mOr, mBin, mFld, dEqF, flV, retM, DL.bindM, mNx, mCall, lenM, mCons, mNil, mTup, mIsT, isT, mSet, mAsg, tgTup, tgCons, tgN, tgNil, mCallO, lenO, runO, mRetO, mLst, mIf, mUn, dNegI, mIsT2, mNoP, mPart, oListC, mDrop, mNever, o_done_of, hmm, mParOV, hr, e', mRetX]
/-! ### the law's -/
def ldnB : MS := mSetIx 2 (mBin atD (mVar 3) (mBin dModI (mCall cInt (mCons (mBin dAddI (mVar 4) (mVar 1)) mNil)) (mCall cLen (mCons (mVar 3) mNil)))) (mVar 5)
theorem ldn_loop {N : Nat} {f : Nat → Nat} {r : List Nat} (w : Rw N f r) (hrow : ∀ x ∈ r, x < N) (m : Nat) (v0 : SV) : ∀ (is : List Nat) (h : Nat → Nat) (v4 v5 : SV), (∀ i ∈ is, i < r.length) → ∃ (h' : Nat → Nat) (w4 w5 : SV), loopM (mTg (tgTup 2 (tgCons (tgN 4) (tgCons (tgN 5) tgNil))) ldnB) (is.map (ixD r)) [v0, .val (.int (m : Nat)), .own (tb N h), .val (.lst (nl r)), v4, v5] = retM (.nx, [v0, .val (.int (m : Nat)), .own (tb N h'), .val (.lst (nl r)), w4, w5]) ∧ (∀ x, h x = pw f m x → h' x = pw f m x) ∧ ∀ i ∈ is, h' (lf r i) = pw f m (lf r i)
  | [], h, v4, v5, _ => ⟨h, v4, v5, rfl, fun _ h => h, fun _ z => nomatch z⟩
  | i :: is, h, v4, v5, hi => by
    have hiL := hi i List.mem_cons_self
    have hpos := w.pos
    have hmod : (i + m) % r.length < r.length := Nat.mod_lt _ hpos
    obtain ⟨h', w4, w5, e, k1, k2⟩ := ldn_loop w hrow m v0 is (fup h (lf r i) (pw f m (lf r i))) (.val (.int (i : Nat))) (.val (.int (lf r i : Nat))) fun j hj => hi j (List.mem_cons_of_mem _ hj)
    refine ⟨h', w4, w5, ?_, fun x hx => k1 x ?_, fun j hj => ?_⟩
    · rw [← e, List.map_cons]
      have hpw : pw f m (lf r i) = lf r ((i + m) % r.length) := by
        rw [lf_get hiL, lf_get hmod]
        exact w.pw m hiL
      have hlt : lf r i < N := by rw [lf_get hiL]; exact hrow _ (List.getElem_mem _)
      have hx : L2.ixN (tb N h).length ((lf r i : Nat) : Int) = some (lf r i) := ixN_nat (by rw [tb_len]; exact hlt)
      have hs : (tb N h).set (lf r i) (.int (pw f m (lf r i) : Nat)) = tb N (fup h (lf r i) (pw f m (lf r i))) := tb_set
      have hat := rb_at hmod
      rw [← hpw] at hat
      have hd : ixD r i = .tup [.int (i : Nat), .int (lf r i : Nat)] := rfl
      have h1 := modN (i + m) hpos
      rw [Int.natCast_add] at h1
      have hl := nl_len (l := r)
      rw [hd]
      unfold ldnB
      generalize dModI = md at *
      generalize ((((i + m) % r.length : Nat)) : Int) = z at *
      generalize tb N (fup h (lf r i) (pw f m (lf r i))) = t2 at *
      generalize tb N h = t at *
      generalize nl r = rr at *
      funext q
      conv => lhs; unfold loopM
      simp [runD, env0, mSeq, mIfS, mNot, mB, mIsC, mVar, isC, mRet, mC, mTV, mAnd, mOr, mBin, mFld, dEqF, flV, retM, DL.bindM, mNx, mCall, lenM, mCons, mNil, mTup, mIsT, isT, mSet, mAsg, tgTup, tgCons, tgN, tgNil, mCallO, lenO, runO, mRetO, mLst, mIf, mUn, dNegI, mIsT2, mNoP, mPart, oListC, mDrop, mNever, mTg, mSetIx, dAddI, dII, cInt, cLen, hl, h1, hat, hx, hs]
    · unfold fup
      split
      · rename_i z; rw [z]
      · exact hx
    · rcases List.mem_cons.mp hj with rfl | hj
      · exact k1 _ (by unfold fup; rw [if_pos rfl])
      · exact k2 j hj
def ldnO : MS := mFor (srcE (mCons (mVar 3) mNil)) (tgTup 2 (tgCons (tgN 4) (tgCons (tgN 5) tgNil))) ldnB
theorem ldn_rows {N : Nat} {f : Nat → Nat} (m : Nat) (v0 : SV) : ∀ (rows : List (List Nat)) (h : Nat → Nat) (v3 v4 v5 : SV), (∀ r ∈ rows, Rw N f r ∧ ∀ x ∈ r, x < N) → ∃ (h' : Nat → Nat) (w3 w4 w5 : SV), loopM (mTg (tgN 3) ldnO) (rowsD rows) [v0, .val (.int (m : Nat)), .own (tb N h), v3, v4, v5] = retM (.nx, [v0, .val (.int (m : Nat)), .own (tb N h'), w3, w4, w5]) ∧ (∀ x, h x = pw f m x → h' x = pw f m x) ∧ ∀ x ∈ rows.flatten, h' x = pw f m x
  | [], h, v3, v4, v5, _ => ⟨h, v3, v4, v5, rfl, fun _ h => h, fun _ z => nomatch z⟩
  | r :: rows, h, v3, v4, v5, hr => by
    obtain ⟨w, hw⟩ := hr r List.mem_cons_self
    obtain ⟨h1, a4, a5, e1, k1, k2⟩ := ldn_loop w hw m v0 (List.range r.length) h v4 v5 fun i hi => List.mem_range.mp hi
    obtain ⟨h2, b3, b4, b5, e2, k3, k4⟩ := ldn_rows m v0 rows h1 (.val (.lst (nl r))) a4 a5 fun r' h => hr r' (List.mem_cons_of_mem _ h)
    refine ⟨h2, b3, b4, b5, ?_, fun x hx => k3 x (k1 x hx), fun x hx => ?_⟩
    · rw [← enum_row] at e1
      have en : rowsD (r :: rows) = .lst (nl r) :: rowsD rows := rfl
      rw [← e2, en]
      unfold ldnO
      generalize ldnB = body at *
      generalize tb N h1 = t1 at *
      generalize tb N h = t at *
      generalize nl r = rr at *
      funext q
      conv => lhs; unfold loopM
      simp [runD, env0, mSeq, mIfS, mNot, mB, mIsC, mVar, isC, mRet, mC, mTV, mAnd, mOr, mBin, mFld, dEqF, flV, retM, DL.bindM, mNx, mCall, lenM, mCons, mNil, mTup, mIsT, isT, mSet, mAsg, tgTup, tgCons, tgN, tgNil, mCallO, lenO, runO, mRetO, mLst, mIf, mUn, dNegI, mIsT2, mNoP, mPart, oListC, mDrop, mNever, mTg, mFor, srcE, e1]
    · rw [List.flatten_cons] at hx
      rcases List.mem_append.mp hx with hx | hx
      · obtain ⟨i, hi, rfl⟩ := List.mem_iff_getElem.mp hx
        refine k3 _ ?_
        have := k2 i (List.mem_range.mpr hi)
        rw [lf_get hi] at this
        exact this
      · exact k4 x hx
theorem law_done_eq {N : Nat} {f : Nat → Nat} (hf : Pm N f) (hN : N ≤ 500) (m : Nat) : o__law_done [.lst (tb N f), .int (m : Nat)] = retM (tb N (pw f m)) := by
  obtain ⟨rows, _, e1, c⟩ := cycles_eq hf hN
  obtain ⟨h', w3, w4, w5, e2, _, k⟩ := ldn_rows (N := N) m (.val (.lst (tb N f))) rows (fun _ => 0) .un .un .un fun r hr => ⟨c.rw' r hr, fun x hx => c.row_lt hr hx⟩
  have et : tb N h' = tb N (pw f m) := tb_congr fun i hi => k i (c.mem i hi)
  rw [et] at e2
  have hlen : (tb N f).length = N := tb_len
  have hrep : oRep (mLst (mNew (mCons (mC (.int 0)) mNil))) (mCall cLen (mCons (mVar 0) mNil)) [.val (.lst (tb N f)), .val (.int (m : Nat)), .un, .un, .un, .un] = retM (tb N fun _ => 0) := by
    have h1 : (N : Int) ≤ 100000 := by omega
    have h2 : (-100000 : Int) ≤ (N : Int) := by omega
    have h3 : N ≤ 100000 := by omega
    have h4 := rep_int N
    have h5 : (List.replicate N (0 : Int)).map D.int = tb N fun _ => 0 := by
      unfold tb
      rw [List.map_replicate, ← List.length_range (n := N), ← List.map_const, List.length_range]
      rfl
    rw [h5] at h4
    generalize (tb N fun _ => 0) = t0 at *
    generalize tb N f = t at *
    funext q
    simp [runD, env0, mSeq, mIfS, mNot, mB, mIsC, mVar, isC, mRet, mC, mTV, mAnd, mOr, mBin, mFld, dEqF, flV, retM, DL.bindM, mNx, mCall, lenM, mCons, mNil, mTup, mIsT, isT, mSet, mAsg, tgTup, tgCons, tgN, tgNil, mCallO, lenO, runO, mRetO, mLst, mIf, mUn, dNegI, mIsT2, mNoP, mPart, oListC, mDrop, mNever, oRep, mNew, cLen, hlen, h1, h2, h3, h4]
  have hm : m__law_done = mSeq (mSetO 2 (oRep (mLst (mNew (mCons (mC (.int 0)) mNil))) (mCall cLen (mCons (mVar 0) mNil)))) (mSeq (mFor (srcL (mLst (mCallO (lenO 1 o__law_rounds) (mCons (mVar 0) mNil)))) (tgN 3) ldnO) (mRetX 2)) := rfl
  generalize ldnO = body at *
  generalize oRep (mLst (mNew (mCons (mC (.int 0)) mNil))) (mCall cLen (mCons (mVar 0) mNil)) = rp at *
  generalize tb N (pw f m) = t1 at *
  generalize (tb N fun _ => 0) = t0 at *
  generalize tb N f = t at *
  generalize rowsD rows = rr at *
  funext q
  simp [runD, env0, mSeq, mIfS, mNot, mB, mIsC, mVar, isC, mRet, mC, mTV, mAnd, mOr, mBin, mFld, dEqF, flV, retM, DL.bindM, mNx, mCall, lenM, mCons, mNil, mTup, mIsT, isT, mSet, mAsg, tgTup, tgCons, tgN, tgNil, mCallO, lenO, runO, mRetO, mLst, mIf, mUn, dNegI, mIsT2, mNoP, mPart, oListC, mDrop, mNever, o__law_done, hm, mSetO, hrep, mFor, srcL, e1, e2, mRetX]
end Q
end

section
set_option Elab.async false
set_option linter.all false
set_option maxRecDepth 100000
set_option maxHeartbeats 4000000
set_option exponentiation.threshold 20000
/-! k47: asked from outside; even or odd by the law; texts. -/
namespace Q
open DL PySem PyProof.Rows Pa
variable {p : Nat}
theorem runD_of {n : Nat} {m : MS} {ds l : List D} (h : runO n m ds = retM l) : runD n m ds = retM (.lst l) := by
  funext q
  have h1 := congrFun h q
  simp only [runO, runD, DL.bindM, retM] at h1 ⊢
  rcases e : m (env0 n ds) q with _ | ⟨⟨o, env⟩, q'⟩
  · rw [e] at h1; cases h1
  · rw [e] at h1
    cases o <;> first | (cases h1; rfl) | cases h1
theorem pk2 (a b : D) : pick [1, 0] [a, b] = [b, a] := rfl
theorem pk3 (a b c : D) : pick [2, 1, 0] [a, b, c] = [c, b, a] := rfl
theorem cyctold (hp : isP p) {f : Nat → Nat} (hf : Pm (p * p) f) {rows : List (List Nat)} (e : o_cycles_of [.lst (tb (p * p) f)] = retM (rowsD rows)) {v : D} (hv : Hd p f v) : o_cycles [.int p, v] = retM (rowsD rows) := by
  have e1 := want_prime_eq hp
  have e2 := want_tb hp hf hv
  generalize tb (p * p) f = t at *
  generalize rowsD rows = r at *
  funext q
  simp [runD, env0, mSeq, mIfS, mNot, mB, mIsC, mVar, isC, mRet, mC, mTV, mAnd, mOr, mBin, mFld, dEqF, flV, retM, DL.bindM, mNx, mCall, lenM, mCons, mNil, mTup, mIsT, isT, mSet, mAsg, tgTup, tgCons, tgN, tgNil, mCallO, lenO, runO, mRetO, mLst, mIf, mUn, dNegI, mIsT2, mNoP, mPart, oListC, mDrop, mNever, o_cycles, m_cycles, e1, e2, e]
theorem rowsD_len (rows : List (List Nat)) : (rowsD rows).length = rows.length := by unfold rowsD; simp [runD, env0, mSeq, mIfS, mNot, mB, mIsC, mVar, isC, mRet, mC, mTV, mAnd, mOr, mBin, mFld, dEqF, flV, retM, DL.bindM, mNx, mCall, lenM, mCons, mNil, mTup, mIsT, isT, mSet, mAsg, tgTup, tgCons, tgN, tgNil, mCallO, lenO, runO, mRetO, mLst, mIf, mUn, dNegI, mIsT2, mNoP, mPart, oListC, mDrop, mNever]
theorem lens_comp {rows : List (List Nat)} {i : Nat} {env : Env'} (hg : env.set i (.val (.lst [])) ≠ [] ∧ ∀ x : SV, (env.set i x)[i]? = some x) : compM (tgN i) mYes (mCall cLen (mCons (mVar i) mNil)) env (rowsD rows) = retM (nl (lens rows)) := by
  unfold rowsD
  have e : nl (lens rows) = rows.map fun r => D.int ((r.length : Nat) : Int) := by
    unfold nl lens
    rw [List.map_map]
    rfl
  rw [e]
  refine comp_map fun r _ => ?_
  have h1 := hg.2 (.val (.lst (nl r)))
  have h2 := nl_len (l := r)
  generalize nl r = x at *
  funext q
  simp [runD, env0, mSeq, mIfS, mNot, mB, mIsC, mVar, isC, mRet, mC, mTV, mAnd, mOr, mBin, mFld, dEqF, flV, retM, DL.bindM, mNx, mCall, lenM, mCons, mNil, mTup, mIsT, isT, mSet, mAsg, tgTup, tgCons, tgN, tgNil, mCallO, lenO, runO, mRetO, mLst, mIf, mUn, dNegI, mIsT2, mNoP, mPart, oListC, mDrop, mNever, h1, cLen, h2]
theorem ordertold (hp : isP p) {f : Nat → Nat} (hf : Pm (p * p) f) {rows : List (List Nat)} (e : o_cycles_of [.lst (tb (p * p) f)] = retM (rowsD rows)) (c : Cyc (p * p) f rows) {v : D} (hv : Hd p f v) : d_order [.int p, v] = retM (.int (ord rows : Nat)) := by
  have hsq := sq_le hp.le
  have e1 := want_prime_eq hp
  have e2 := want_tb hp hf hv
  have e3 := lens_comp (rows := rows) (i := 2) (env := [.val (.int p), .val v, .un]) ⟨fun z => (by simp [runD, env0, mSeq, mIfS, mNot, mB, mIsC, mVar, isC, mRet, mC, mTV, mAnd, mOr, mBin, mFld, dEqF, flV, retM, DL.bindM, mNx, mCall, lenM, mCons, mNil, mTup, mIsT, isT, mSet, mAsg, tgTup, tgCons, tgN, tgNil, mCallO, lenO, runO, mRetO, mLst, mIf, mUn, dNegI, mIsT2, mNoP, mPart, oListC, mDrop, mNever] at z), fun x => rfl⟩
  have e4 := common_multiple_eq (ls := lens rows) fun l hl => ⟨c.len_pos l hl, by have := c.len_le l hl; omega⟩
  have e5 : (rowsD rows).length ≤ 100000 := by rw [rowsD_len]; have := c.le; omega
  have eo : ordF 1 (lens rows) = ord rows := rfl
  rw [eo] at e4
  generalize tb (p * p) f = t at *
  generalize rowsD rows = r at *
  generalize nl (lens rows) = r2 at *
  generalize ((ord rows : Nat) : Int) = y at *
  have hm : m_order = mSeq (mDrop (mCall (lenM 1 d_want_prime) (mCons (mVar 0) mNil))) (mRet (mCall (lenM 1 d_common_multiple) (mCons (mLst (mLc (srcL (mLst (mCallO (lenO 1 o_cycles_of) (mCons (mLst (mCallO (lenO 2 o_want_deal) (mCons (mVar 0) (mCons (mVar 1) mNil)))) mNil)))) [2] (tgN 2) mYes (mCall cLen (mCons (mVar 2) mNil)))) mNil))) := rfl
  generalize hel : (mCall cLen (mCons (mVar 2) mNil)) = el at *
  funext q
  simp [runD, env0, mSeq, mIfS, mNot, mB, mIsC, mVar, isC, mRet, mC, mTV, mAnd, mOr, mBin, mFld, dEqF, flV, retM, DL.bindM, mNx, mCall, lenM, mCons, mNil, mTup, mIsT, isT, mSet, mAsg, tgTup, tgCons, tgN, tgNil, mCallO, lenO, runO, mRetO, mLst, mIf, mUn, dNegI, mIsT2, mNoP, mPart, oListC, mDrop, mNever, d_order, hm, e1, mLc, srcL, e2, e, e5, wipeE, e3, e4]
theorem donetold (hp : isP p) {f : Nat → Nat} (hf : Pm (p * p) f) {v : D} (hv : Hd p f v) {m : Nat} (hm : m ≤ 1000000) : o_done_deal [.int p, v, .int (m : Nat)] = retM (tb (p * p) (pw f m)) := by
  have hsq := sq_le hp.le
  have e1 := want_prime_eq hp
  have e2 := want_tb hp hf hv
  have e3 := done_of_eq (N := p * p) (by omega) hf hm
  have e4 := iscount_eq (d := .int (m : Nat)) fun z => nomatch z
  have e5 : isN (.int (m : Nat)) = true := by unfold isN; exact decide_eq_true (by omega)
  rw [e5] at e4
  have e6 : ¬ (1000000 : Int) < (m : Int) := by omega
  generalize tb (p * p) (pw f m) = t2 at *
  generalize tb (p * p) f = t at *
  funext q
  simp [runD, env0, mSeq, mIfS, mNot, mB, mIsC, mVar, isC, mRet, mC, mTV, mAnd, mOr, mBin, mFld, dEqF, flV, retM, DL.bindM, mNx, mCall, lenM, mCons, mNil, mTup, mIsT, isT, mSet, mAsg, tgTup, tgCons, tgN, tgNil, mCallO, lenO, runO, mRetO, mLst, mIf, mUn, dNegI, mIsT2, mNoP, mPart, oListC, mDrop, mNever, o_done_deal, m_done_deal, e1, e2, mSet, e4, dGt, dII, e6, e3]
theorem isdealtold (hp : isP p) {f : Nat → Nat} (hf : Pm (p * p) f) {v : D} (hv : Hd p f v) : d_is_deal [.int p, v] = retM (.bl true) := by
  have hsq := sq_le hp.le
  have e1 := want_prime_eq hp
  have e2 := deal_prog hp.le (v := v) (ints_kd hv.ints (by unfold tbI; rw [List.length_map, List.length_range]; omega))
  have e3 : dealB p v = true := by
    unfold dealB
    have hi := hv.ints
    rw [hi]
    dsimp only
    rw [intsD_map]
    exact decide_eq_true (tbI_sort hf)
  rw [e3] at e2
  funext q
  simp [runD, env0, mSeq, mIfS, mNot, mB, mIsC, mVar, isC, mRet, mC, mTV, mAnd, mOr, mBin, mFld, dEqF, flV, retM, DL.bindM, mNx, mCall, lenM, mCons, mNil, mTup, mIsT, isT, mSet, mAsg, tgTup, tgCons, tgN, tgNil, mCallO, lenO, runO, mRetO, mLst, mIf, mUn, dNegI, mIsT2, mNoP, mPart, oListC, mDrop, mNever, d_is_deal, m_is_deal, e1, e2]
theorem undonepw {N : Nat} {f g : Nat → Nat} (hf : Pm N f) {rows : List (List Nat)} (c : Cyc N f rows) (h : Inv' N f g) : tb N g = tb N (pw f (ord rows - 1)) := by
  refine tb_congr fun i hi => ?_
  have hgi := (h.pm hf).lt i hi
  have h1 := (c.home (ord rows)).mpr (Nat.dvd_refl _) i hi
  have hpos := c.ord_pos
  have h2 : pw f (ord rows) i = f (pw f (ord rows - 1) i) := by
    conv => lhs; rw [show ord rows = (ord rows - 1) + 1 by omega]
    rfl
  refine hf.inj _ _ hgi ((pw_pm hf _).lt i hi) ?_
  rw [h.r hf i hi, ← h2, h1]
/-! ### even or odd by the law -/
def leE : Env' → Mo (List D) := mLc (srcL (mLst (oSlice (mVar 0) (mPart (mBin dAddI (mVar 2) (mC (.int 1)))) mNoP))) [4] (tgN 4) (mB (mBin dLt (mVar 4) (mVar 3))) (mVar 4)
def leB : MS := mSet 1 (mBin dAddI (mVar 1) (mCall cLen (mCons (mLst leE) mNil)))
theorem cut_tb {N : Nat} (f : Nat → Nat) (i : Nat) : DL.cutD (tb N f) (some ((i + 1 : Nat) : Int)) none = ((List.range N).drop (i + 1)).map fun j => D.int ((f j : Nat) : Int) := by
  have h := cut_hi ((List.range N).map f) (i + 1)
  have e : nl ((List.range N).map f) = tb N f := by unfold nl tb; rw [List.map_map]; rfl
  rw [e] at h
  rw [h]
  unfold nl
  rw [← List.map_drop, List.map_map]
  rfl
theorem le_body {N : Nat} (hN : N ≤ 500) (f : Nat → Nat) (a i : Nat) (v4 : SV) : leB [.val (.lst (tb N f)), .val (.int (a : Nat)), .val (.int (i : Nat)), .val (.int (f i : Nat)), v4] = retM (.nx, [.val (.lst (tb N f)), .val (.int (a + wrong N f i : Nat)), .val (.int (i : Nat)), .val (.int (f i : Nat)), v4]) := by
  have h1 := cut_tb (N := N) f i
  rw [Int.natCast_add] at h1
  have e1 : ((1 : Nat) : Int) = 1 := rfl
  rw [e1] at h1
  have hl : (((List.range N).drop (i + 1)).map fun j => D.int ((f j : Nat) : Int)).length ≤ 100000 := by rw [List.length_map, List.length_drop, List.length_range]; omega
  have hc : compM (tgN 4) (mB (mBin dLt (mVar 4) (mVar 3))) (mVar 4) [.val (.lst (tb N f)), .val (.int (a : Nat)), .val (.int (i : Nat)), .val (.int (f i : Nat)), .un] (((List.range N).drop (i + 1)).map fun j => D.int ((f j : Nat) : Int)) = retM ((((List.range N).drop (i + 1)).filter fun j => decide (f j < f i)).map fun j => D.int ((f j : Nat) : Int)) := by
    refine comp_filter (fun j _ => ?_) (fun j _ _ => rfl)
    generalize tb N f = t at *
    by_cases z : f j < f i
    · rw [decide_eq_true z]
      funext q
      simp [runD, env0, mSeq, mIfS, mNot, mB, mIsC, mVar, isC, mRet, mC, mTV, mAnd, mOr, mBin, mFld, dEqF, flV, retM, DL.bindM, mNx, mCall, lenM, mCons, mNil, mTup, mIsT, isT, mSet, mAsg, tgTup, tgCons, tgN, tgNil, mCallO, lenO, runO, mRetO, mLst, mIf, mUn, dNegI, mIsT2, mNoP, mPart, oListC, mDrop, mNever, dLt, dII, z]
    · rw [decide_eq_false z]
      funext q
      simp [runD, env0, mSeq, mIfS, mNot, mB, mIsC, mVar, isC, mRet, mC, mTV, mAnd, mOr, mBin, mFld, dEqF, flV, retM, DL.bindM, mNx, mCall, lenM, mCons, mNil, mTup, mIsT, isT, mSet, mAsg, tgTup, tgCons, tgN, tgNil, mCallO, lenO, runO, mRetO, mLst, mIf, mUn, dNegI, mIsT2, mNoP, mPart, oListC, mDrop, mNever, dLt, dII, Nat.not_lt.mp z]
  have hlen : ((((List.range N).drop (i + 1)).filter fun j => decide (f j < f i)).map fun j => D.int ((f j : Nat) : Int)).length = wrong N f i := by rw [List.length_map]; rfl
  have he : leE [.val (.lst (tb N f)), .val (.int (a : Nat)), .val (.int (i : Nat)), .val (.int (f i : Nat)), v4] = retM ((((List.range N).drop (i + 1)).filter fun j => decide (f j < f i)).map fun j => D.int ((f j : Nat) : Int)) := by
    unfold leE
    generalize (mB (mBin dLt (mVar 4) (mVar 3))) = tt at *
    generalize ((((List.range N).drop (i + 1)).filter fun j => decide (f j < f i)).map fun j => D.int ((f j : Nat) : Int)) = o2 at *
    generalize (((List.range N).drop (i + 1)).map fun j => D.int ((f j : Nat) : Int)) = o1 at *
    generalize tb N f = t at *
    funext q
    simp [runD, env0, mSeq, mIfS, mNot, mB, mIsC, mVar, isC, mRet, mC, mTV, mAnd, mOr, mBin, mFld, dEqF, flV, retM, DL.bindM, mNx, mCall, lenM, mCons, mNil, mTup, mIsT, isT, mSet, mAsg, tgTup, tgCons, tgN, tgNil, mCallO, lenO, runO, mRetO, mLst, mIf, mUn, dNegI, mIsT2, mNoP, mPart, oListC, mDrop, mNever, mLc, srcL, oSlice, dAddI, dII, h1, hl, wipeE, hc]
  rw [Int.natCast_add]
  unfold leB
  generalize leE = le at *
  generalize ((((List.range N).drop (i + 1)).filter fun j => decide (f j < f i)).map fun j => D.int ((f j : Nat) : Int)) = o2 at *
  generalize tb N f = t at *
  funext q
  simp [runD, env0, mSeq, mIfS, mNot, mB, mIsC, mVar, isC, mRet, mC, mTV, mAnd, mOr, mBin, mFld, dEqF, flV, retM, DL.bindM, mNx, mCall, lenM, mCons, mNil, mTup, mIsT, isT, mSet, mAsg, tgTup, tgCons, tgN, tgNil, mCallO, lenO, runO, mRetO, mLst, mIf, mUn, dNegI, mIsT2, mNoP, mPart, oListC, mDrop, mNever, cLen, he, hlen, dAddI, dII]
theorem le_loop {N : Nat} (hN : N ≤ 500) (f : Nat → Nat) (v4 : SV) : ∀ (is : List Nat) (a : Nat) (v2 v3 : SV), ∃ w2 w3, loopM (mTg (tgTup 2 (tgCons (tgN 2) (tgCons (tgN 3) tgNil))) leB) (is.map fun i => D.tup [.int (i : Nat), .int (f i : Nat)]) [.val (.lst (tb N f)), .val (.int (a : Nat)), v2, v3, v4] = retM (.nx, [.val (.lst (tb N f)), .val (.int (a + (is.map (wrong N f)).sum : Nat)), w2, w3, v4])
  | [], a, v2, v3 => ⟨v2, v3, rfl⟩
  | i :: is, a, v2, v3 => by
    obtain ⟨w2, w3, e⟩ := le_loop hN f v4 is (a + wrong N f i) (.val (.int (i : Nat))) (.val (.int (f i : Nat)))
    refine ⟨w2, w3, ?_⟩
    have e0 : a + ((i :: is).map (wrong N f)).sum = a + wrong N f i + (is.map (wrong N f)).sum := by rw [List.map_cons, List.sum_cons]; omega
    have hb := le_body hN f a i v4
    rw [e0, ← e, List.map_cons]
    generalize leB = body at *
    generalize ((a + wrong N f i : Nat) : Int) = x at *
    generalize tb N f = t at *
    funext q
    conv => lhs; unfold loopM
    simp [runD, env0, mSeq, mIfS, mNot, mB, mIsC, mVar, isC, mRet, mC, mTV, mAnd, mOr, mBin, mFld, dEqF, flV, retM, DL.bindM, mNx, mCall, lenM, mCons, mNil, mTup, mIsT, isT, mSet, mAsg, tgTup, tgCons, tgN, tgNil, mCallO, lenO, runO, mRetO, mLst, mIf, mUn, dNegI, mIsT2, mNoP, mPart, oListC, mDrop, mNever, mTg, hb]
theorem law_even_eq {N : Nat} (hN : N ≤ 500) (f : Nat → Nat) : d__law_is_even [.lst (tb N f)] = retM (.bl (!(sg N f))) := by
  obtain ⟨w2, w3, e⟩ := le_loop hN f .un (List.range N) 0 .un .un
  rw [Nat.zero_add, ← enum_tb0] at e
  have e1 : ((0 : Nat) : Int) = 0 := rfl
  rw [e1] at e
  rw [wrong_sg]
  generalize ((List.range N).map (wrong N f)).sum = S at *
  have h1 := modN S (b := 2) (by decide)
  have e2 : ((2 : Nat) : Int) = 2 := rfl
  rw [e2] at h1
  have h2 := eqi ((S % 2 : Nat) : Int) 0
  have e3 : decide (((S % 2 : Nat) : Int) = 0) = !decide (S % 2 = 1) := by
    by_cases z : S % 2 = 1
    · rw [decide_eq_true z, decide_eq_false (by omega)]; rfl
    · rw [decide_eq_false z, decide_eq_true (by omega)]; rfl
  rw [e3] at h2
  have hm : m__law_is_even = mSeq (mSet 1 (mC (.int 0))) (mSeq (mFor (srcE (mCons (mVar 0) mNil)) (tgTup 2 (tgCons (tgN 2) (tgCons (tgN 3) tgNil))) leB) (mRet (mBin (dEqF false) (mBin dModI (mCall cInt (mCons (mVar 1) mNil)) (mC (.int 2))) (mC (.int 0))))) := rfl
  generalize leB = body at *
  generalize dEqF = eqf at *
  generalize dModI = md at *
  generalize (!decide (S % 2 = 1)) = b at *
  generalize ((S % 2 : Nat) : Int) = r at *
  generalize tb N f = t at *
  funext q
  simp [runD, env0, mSeq, mIfS, mNot, mB, mIsC, mVar, isC, mRet, mC, mTV, mAnd, mOr, mBin, mFld, dEqF, flV, retM, DL.bindM, mNx, mCall, lenM, mCons, mNil, mTup, mIsT, isT, mSet, mAsg, tgTup, tgCons, tgN, tgNil, mCallO, lenO, runO, mRetO, mLst, mIf, mUn, dNegI, mIsT2, mNoP, mPart, oListC, mDrop, mNever, d__law_is_even, hm, mFor, srcE, e, cInt, h1, h2]
end Q
end

section
set_option Elab.async false
set_option linter.all false
set_option maxRecDepth 100000
set_option maxHeartbeats 4000000
set_option exponentiation.threshold 20000
/-! k47: texts; one deal told. -/
namespace Q
open DL PySem PyProof.Rows Pa
/-- there is a text of it, of at most b signs -/
def Sh (n b : Nat) (d : D) : Prop := ∃ t, repT ur n d = some t ∧ t.length ≤ b
theorem list_len (ts : List Str) : (listText ts).length ≤ piled ts + 4 := by
  cases ts with
  | nil => decide
  | cons t r =>
    have h := textFrom_length_pos r 1 (("[" : Str) ++ (if (0 : Nat) > 0 then ", " else "" : String) ++ t) (Nat.succ_pos 0)
    have e : ((("[" : Str) ++ (if (0 : Nat) > 0 then ", " else "" : String) ++ t)).length = 1 + t.length := by
      rw [strLen_append, strLen_append]; rfl
    have hX : (listText (t :: r)).length = (textFrom 0 "[" (t :: r)).length + 1 := by
      show (textFrom 0 "[" (t :: r) ++ "]").length = _
      rw [strLen_append]; rfl
    have hY : (textFrom 0 "[" (t :: r)).length = (textFrom 1 (("[" : Str) ++ (if (0 : Nat) > 0 then ", " else "" : String) ++ t) r).length := rfl
    rw [hX, hY, h, e, piled_cons]; omega
theorem repL_all {f : D → Option Str} {b : Nat} : ∀ {ds : List D}, (∀ d ∈ ds, ∃ t, f d = some t ∧ t.length ≤ b) → ∃ ts, repL f ds = some ts ∧ piled ts ≤ (b + 2) * ds.length
  | [], _ => ⟨[], rfl, Nat.zero_le _⟩
  | d :: ds, h => by
    obtain ⟨ts, h1, h2⟩ := repL_all (ds := ds) fun e he => h e (List.mem_cons_of_mem _ he)
    obtain ⟨t, h3, h4⟩ := h d List.mem_cons_self
    refine ⟨t :: ts, ?_, ?_⟩
    · unfold repL
      rw [h3, h1]
    · rw [piled_cons, List.length_cons, Nat.mul_succ]
      omega
theorem sh_nat (n : Nat) {v : Nat} (h : v < 10 ^ 260) : Sh n 260 (.int (v : Nat)) := by
  have hlog : ((v : Nat) : Int).natAbs.log2 < 1920 := by
    rw [Int.natAbs_natCast]
    by_cases z : v = 0
    · rw [z]; decide
    · refine (Nat.log2_lt z).mpr (Nat.lt_trans h ?_)
      decide +kernel
  have hf : flT (.int (v : Nat)) = some (Str.ofString (toString ((v : Nat) : Int))) := by
    unfold flT
    dsimp only
    rw [if_pos hlog]
  refine ⟨Str.ofString (toString ((v : Nat) : Int)), ?_, toString_length_le (by omega) (by decide) ?_⟩
  · cases n with
    | zero => exact hf
    | succ n => exact hf
  · have : ((v : Nat) : Int) < ((10 ^ 260 : Nat) : Int) := by omega
    rw [Int.natCast_pow] at this
    exact this
theorem sh_bl (n : Nat) (b : Bool) : Sh n 5 (.bl b) := by
  refine ⟨if b then "True" else "False", ?_, ?_⟩
  · cases n <;> rfl
  · cases b <;> decide
theorem Sh.mono {n b c : Nat} {d : D} (h : Sh n b d) (hb : b ≤ c) : Sh n c d := by
  obtain ⟨t, h1, h2⟩ := h
  exact ⟨t, h1, Nat.le_trans h2 hb⟩
theorem sh_lst {n b : Nat} {ds : List D} (h : ∀ d ∈ ds, Sh n b d) : Sh (n + 1) ((b + 2) * ds.length + 4) (.lst ds) := by
  obtain ⟨ts, h1, h2⟩ := repL_all h
  have hl := list_len ts
  refine ⟨listText ts, ?_, by omega⟩
  show (match repL (repT ur n) ds with | some ts => some (listText ts) | none => none) = _
  rw [h1]
theorem sh_repr {b : Nat} {ds : List D} (h : Sh 4 b (.lst ds)) (hb : b ≤ 10000000) : ∃ t, cReprU [.lst ds] = retM (.str t) := by
  obtain ⟨t, h1, h2⟩ := h
  refine ⟨t, ?_⟩
  unfold cReprU cRepr
  dsimp only
  rw [h1]
  dsimp only
  rw [if_pos (by omega)]
theorem sh_nl (n : Nat) {l : List Nat} {c : Nat} (hl : l.length ≤ c) (h : ∀ x ∈ l, x < 10 ^ 260) : Sh (n + 1) (262 * c + 4) (.lst (nl l)) := by
  have := sh_lst (n := n) (b := 260) (ds := nl l) fun d hd => by
    unfold nl at hd
    obtain ⟨x, hx, rfl⟩ := List.mem_map.mp hd
    exact sh_nat n (h x hx)
  rw [nl_len] at this
  exact this.mono (by omega)
theorem lt260 {v : Nat} (h : v ≤ 1000000) : v < 10 ^ 260 := Nat.lt_of_le_of_lt h (by decide +kernel)
theorem nl_tb (N : Nat) (f : Nat → Nat) : tb N f = nl ((List.range N).map f) := by
  unfold nl tb
  rw [List.map_map]
  rfl
theorem sh_tb (n : Nat) {N : Nat} {f : Nat → Nat} (hN : N ≤ 121) (hf : ∀ i, i < N → f i < 1000) : Sh (n + 1) 40000 (.lst (tb N f)) := by
  rw [nl_tb]
  refine (sh_nl n (c := 121) (by simp [runD, env0, mSeq, mIfS, mNot, mB, mIsC, mVar, isC, mRet, mC, mTV, mAnd, mOr, mBin, mFld, dEqF, flV, retM, DL.bindM, mNx, mCall, lenM, mCons, mNil, mTup, mIsT, isT, mSet, mAsg, tgTup, tgCons, tgN, tgNil, mCallO, lenO, runO, mRetO, mLst, mIf, mUn, dNegI, mIsT2, mNoP, mPart, oListC, mDrop, mNever]; omega) fun x hx => ?_).mono (by omega)
  obtain ⟨i, hi, rfl⟩ := List.mem_map.mp hx
  have := hf i (List.mem_range.mp hi)
  exact lt260 (by omega)
theorem eqU_str (ne : Bool) (a : Str) : dEqU ne (.str a) (.str a) = retM (.bl (!ne)) := by
  unfold dEqU dEqR
  rw [dOr_ret (a := .bl (!ne))]
  have e := eqs_self a ne
  exact e
where
  eqs_self (a : Str) (ne : Bool) : dEqF ne (.str a) (.str a) = retM (.bl (!ne)) := by
    simp [runD, env0, mSeq, mIfS, mNot, mB, mIsC, mVar, isC, mRet, mC, mTV, mAnd, mOr, mBin, mFld, dEqF, flV, retM, DL.bindM, mNx, mCall, lenM, mCons, mNil, mTup, mIsT, isT, mSet, mAsg, tgTup, tgCons, tgN, tgNil, mCallO, lenO, runO, mRetO, mLst, mIf, mUn, dNegI, mIsT2, mNoP, mPart, oListC, mDrop, mNever, L2.scal]
theorem repr_tb {N : Nat} {f : Nat → Nat} (hN : N ≤ 121) (hf : ∀ i, i < N → f i < 1000) : ∃ t, cReprU [.lst (tb N f)] = retM (.str t) := sh_repr (sh_tb 3 hN hf) (by decide)
theorem sh_rows (n : Nat) {N : Nat} {f : Nat → Nat} {rows : List (List Nat)} (c : Cyc N f rows) (hN : N ≤ 121) : Sh (n + 2) 5000000 (.lst (rowsD rows)) := by
  have := sh_lst (n := n + 1) (b := 40000) (ds := rowsD rows) fun d hd => by
    unfold rowsD at hd
    obtain ⟨r, hr, rfl⟩ := List.mem_map.mp hd
    have h1 := c.len_le _ (List.mem_map.mpr ⟨r, hr, rfl⟩)
    refine (sh_nl n (c := 121) (by omega) fun x hx => ?_).mono (by omega)
    have := c.row_lt hr hx
    exact lt260 (by omega)
  rw [rowsD_len] at this
  have hl := c.le
  refine this.mono ?_
  have : (40000 + 2) * rows.length ≤ 40002 * 121 := Nat.mul_le_mul_left _ (by omega)
  omega
theorem ord_lt {N : Nat} {f : Nat → Nat} {rows : List (List Nat)} (c : Cyc N f rows) (hN : N ≤ 121) (hN0 : 0 < N) : ord rows < 10 ^ 260 := by
  have h := ordF_le (lens rows) 1 N (by decide) fun l hl => ⟨c.len_pos l hl, c.len_le l hl⟩
  rw [Nat.one_mul] at h
  have hl : (lens rows).length ≤ 121 := by unfold lens; rw [List.length_map]; exact Nat.le_trans c.le hN
  have h2 : N ^ (lens rows).length ≤ 121 ^ 121 := Nat.le_trans (Nat.pow_le_pow_left hN _) (Nat.pow_le_pow_right (by decide) hl)
  exact Nat.lt_of_le_of_lt (Nat.le_trans h h2) (by decide +kernel)
theorem rows_ne {N : Nat} {f : Nat → Nat} {rows : List (List Nat)} (c : Cyc N f rows) (hN0 : 0 < N) : ∃ r rest, rows = r :: rest := by
  cases rows with
  | nil => have := c.len; simp [runD, env0, mSeq, mIfS, mNot, mB, mIsC, mVar, isC, mRet, mC, mTV, mAnd, mOr, mBin, mFld, dEqF, flV, retM, DL.bindM, mNx, mCall, lenM, mCons, mNil, mTup, mIsT, isT, mSet, mAsg, tgTup, tgCons, tgN, tgNil, mCallO, lenO, runO, mRetO, mLst, mIf, mUn, dNegI, mIsT2, mNoP, mPart, oListC, mDrop, mNever] at this; omega
  | cons r rest => exact ⟨r, rest, rfl⟩
theorem tb_scal (N : Nat) (f : Nat → Nat) : (tb N f).all scalD = true := List.all_eq_true.mpr fun d hd => by
  unfold tb at hd
  obtain ⟨i, _, rfl⟩ := List.mem_map.mp hd
  rfl
end Q
end

section
set_option Elab.async false
set_option linter.all false
set_option maxRecDepth 100000
set_option maxHeartbeats 4000000
set_option exponentiation.threshold 20000
/-! k47: the law on one deal. -/
namespace Q
open DL PySem PyProof.Rows Pa
variable {p : Nat}
/-- the deal's rounds, told by both -/
structure Tl (p : Nat) (f : Nat → Nat) (rows : List (List Nat)) : Prop where
  hp : isP p
  hf : Pm (p * p) f
  cy : o_cycles_of [.lst (tb (p * p) f)] = retM (rowsD rows)
  lr : o__law_rounds [.lst (tb (p * p) f)] = retM (rowsD rows)
  c : Cyc (p * p) f rows
theorem tl_of (hp : isP p) {f : Nat → Nat} (hf : Pm (p * p) f) : ∃ rows, Tl p f rows := by
  have hsq := sq_le hp.le
  obtain ⟨rows, h1, h2, h3⟩ := cycles_eq (N := p * p) hf (by omega)
  exact ⟨rows, hp, hf, h1, h2, h3⟩
theorem Tl.sq {f : Nat → Nat} {rows : List (List Nat)} (T : Tl p f rows) : p * p ≤ 121 := sq_le T.hp.le
theorem Tl.sq0 {f : Nat → Nat} {rows : List (List Nat)} (T : Tl p f rows) : 0 < p * p := by
  have := T.hp.pos
  exact Nat.mul_pos (by omega) (by omega)
theorem Tl.und {f : Nat → Nat} {rows : List (List Nat)} (T : Tl p f rows) {v : D} (hv : Hd p f v) : o_undone_deal [.int p, v] = retM (tb (p * p) (pw f (ord rows - 1))) := by
  obtain ⟨g, e, h⟩ := undone_told T.hp T.hf
  rw [e v hv, undonepw T.hf T.c h]
def dueL (p : Nat) (f : Nat → Nat) (rows : List (List Nat)) : List D := [.lst (rowsD rows), .int (ord rows : Nat), .bl (!(sg (p * p) f)), .lst (tb (p * p) (pw f (ord rows - 1))), .bl true]
theorem due_repr {f : Nat → Nat} {rows : List (List Nat)} (T : Tl p f rows) : ∃ t, cReprU [.lst (dueL p f rows)] = retM (.str t) := by
  have hsq := T.sq
  have h : Sh 4 25000100 (.lst (dueL p f rows)) → ∃ t, cReprU [.lst (dueL p f rows)] = retM (.str t) := fun ⟨t, h1, h2⟩ => by
    refine sh_repr (b := 5100000) ⟨t, h1, ?_⟩ (by decide)
    -- the length itself
    obtain ⟨t1, a1, b1⟩ := sh_rows 1 T.c hsq
    obtain ⟨t2, a2, b2⟩ := sh_nat 3 (ord_lt T.c hsq T.sq0)
    obtain ⟨t3, a3, b3⟩ := sh_bl 3 (!(sg (p * p) f))
    obtain ⟨t4, a4, b4⟩ := sh_tb 2 (f := pw f (ord rows - 1)) hsq (fun i hi => by have := (pw_pm T.hf (ord rows - 1)).lt i hi; omega)
    obtain ⟨t5, a5, b5⟩ := sh_bl 3 true
    have e : repT ur 4 (.lst (dueL p f rows)) = some (listText [t1, t2, t3, t4, t5]) := by
      show (match repL (repT ur 3) (dueL p f rows) with | some ts => some (listText ts) | none => none) = _
      unfold dueL
      simp only [repL]
      rw [a1, a2, a3, a4, a5]
    rw [e] at h1
    cases h1
    have hl := list_len [t1, t2, t3, t4, t5]
    have hp : piled [t1, t2, t3, t4, t5] ≤ (t1.length + 2) + ((t2.length + 2) + ((t3.length + 2) + ((t4.length + 2) + ((t5.length + 2) + 0)))) := by
      rw [piled_cons, piled_cons, piled_cons, piled_cons, piled_cons]
      have e0 : piled ([] : List Str) = 0 := rfl
      omega
    omega
  refine h ?_
  have := sh_lst (n := 3) (b := 5000000) (ds := dueL p f rows) fun d hd => by
    unfold dueL at hd
    simp only [List.mem_cons, List.not_mem_nil, or_false] at hd
    rcases hd with rfl | rfl | rfl | rfl | rfl
    · exact sh_rows 1 T.c hsq
    · exact (sh_nat 3 (ord_lt T.c hsq T.sq0)).mono (by decide)
    · exact (sh_bl 3 _).mono (by decide)
    · exact (sh_tb 2 hsq fun i hi => by have := (pw_pm T.hf (ord rows - 1)).lt i hi; omega).mono (by decide)
    · exact (sh_bl 3 _).mono (by decide)
  exact this.mono (by have e : (dueL p f rows).length = 5 := rfl; rw [e]; decide)
noncomputable def hoM1 : Env' → Mo (List D) := mNew (mCons (mLst (mCallO (lenO 2 o_cycles) (mCons (mPl (mVar 1)) (mCons (mLst (mPlO (mCallO oListC (mCons (mVar 2) mNil)))) mNil)))) (mCons (mPl (mCall (lenM 2 d_order) (mCons (mVar 1) (mCons (mCall cTup (mCons (mVar 2) mNil)) mNil)))) (mCons (mPl (mCall (lenM 2 d_is_even_deal) (mCons (mVar 1) (mCons (mLst (mCallO oListC (mCons (mVar 2) mNil))) mNil)))) mNil)))
noncomputable def hoM2 : Env' → Mo (List D) := mNew (mCons (mLst (mPlO (mCallO (lenO 2 o_undone_deal) (mCons (mVar 1) (mCons (mCall cTup (mCons (mVar 2) mNil)) mNil))))) (mCons (mPl (mCall (lenM 2 d_is_deal) (mCons (mVar 1) (mCons (mVar 2) mNil)))) mNil))
theorem ho1 {f : Nat → Nat} {rows : List (List Nat)} (T : Tl p f rows) (v3 v4 v5 v6 v7 v8 : SV) : hoM1 [.val .pot, .val (.int p), .val (.lst (tb (p * p) f)), v3, v4, v5, v6, v7, v8] = retM [.lst (rowsD rows), .int (ord rows : Nat), .bl (!(sg (p * p) f))] := by
  have h1 := cyctold T.hp T.hf T.cy (hd_lst p f)
  have h2 := ordertold T.hp T.hf T.cy T.c (hd_tup p f)
  have h3 := evendeal_eq T.hp T.hf (hd_lst p f)
  have h4 := tb_scal (p * p) f
  unfold hoM1
  generalize (!(sg (p * p) f)) = b at *
  generalize tb (p * p) f = t at *
  generalize rowsD rows = r at *
  generalize ((ord rows : Nat) : Int) = o at *
  funext q
  simp [runD, env0, mSeq, mIfS, mNot, mB, mIsC, mVar, isC, mRet, mC, mTV, mAnd, mOr, mBin, mFld, dEqF, flV, retM, DL.bindM, mNx, mCall, lenM, mCons, mNil, mTup, mIsT, isT, mSet, mAsg, tgTup, tgCons, tgN, tgNil, mCallO, lenO, runO, mRetO, mLst, mIf, mUn, dNegI, mIsT2, mNoP, mPart, oListC, mDrop, mNever, mNew, mPl, plainD, scalD, mPlO, h4, h1, cTup, h2, h3]
theorem ho2 {f : Nat → Nat} {rows : List (List Nat)} (T : Tl p f rows) (v3 v4 v5 v6 v7 v8 : SV) : hoM2 [.val .pot, .val (.int p), .val (.lst (tb (p * p) f)), v3, v4, v5, v6, v7, v8] = retM [.lst (tb (p * p) (pw f (ord rows - 1))), .bl true] := by
  have h1 := T.und (hd_tup p f)
  have h2 := isdealtold T.hp T.hf (hd_lst p f)
  have h4 := tb_scal (p * p) (pw f (ord rows - 1))
  unfold hoM2
  generalize tb (p * p) (pw f (ord rows - 1)) = t2 at *
  generalize tb (p * p) f = t at *
  funext q
  simp [runD, env0, mSeq, mIfS, mNot, mB, mIsC, mVar, isC, mRet, mC, mTV, mAnd, mOr, mBin, mFld, dEqF, flV, retM, DL.bindM, mNx, mCall, lenM, mCons, mNil, mTup, mIsT, isT, mSet, mAsg, tgTup, tgCons, tgN, tgNil, mCallO, lenO, runO, mRetO, mLst, mIf, mUn, dNegI, mIsT2, mNoP, mPart, oListC, mDrop, mNever, mNew, mPl, plainD, scalD, mPlO, h4, h1, cTup, h2]
noncomputable def hoC : Env' → Mo Bool := mB (mBin (dEqU true) (mCall cReprU (mCons (mVar 7) mNil)) (mCall cReprU (mCons (mVar 5) mNil)))
theorem ho_body {f : Nat → Nat} {rows : List (List Nat)} (T : Tl p f rows) (v3 v4 v6 v7 v8 : SV) : mHot 7 3 hoM1 hoM2 hoC (mC (.bl false)) [.val .pot, .val (.int p), .val (.lst (tb (p * p) f)), v3, v4, .val (.lst (dueL p f rows)), v6, v7, v8] = retM (.nx, [.val .pot, .val (.int p), .val (.lst (tb (p * p) f)), v3, v4, .val (.lst (dueL p f rows)), v6, .un, v8]) := by
  have h1 := ho1 T v3 v4 (.val (.lst (dueL p f rows))) v6 v7 v8
  have h2 := ho2 T v3 v4 (.val (.lst (dueL p f rows))) v6 .un v8
  obtain ⟨t, h3⟩ := due_repr T
  have h4 := eqU_str true t
  have hsq := T.sq
  obtain ⟨r, rest, er⟩ := rows_ne T.c T.sq0
  have ed : ([.lst (rowsD rows), .int (ord rows : Nat), .bl (!(sg (p * p) f))] : List D) ++ [.lst (tb (p * p) (pw f (ord rows - 1))), .bl true] = dueL p f rows := rfl
  have hrl : (nl r).length ≤ 100000 := by
    rw [nl_len]
    have := T.c.len_le r.length (List.mem_map.mpr ⟨r, by rw [er]; exact List.mem_cons_self, rfl⟩)
    omega
  have c1 : isLL (dueL p f rows) 0 = true := by
    unfold isLL dueL
    rw [er]
    exact decide_eq_true hrl
  have c2 : isL (dueL p f rows) 3 = true := rfl
  have hcc : hoC [.val .pot, .val (.int p), .val (.lst (tb (p * p) f)), v3, v4, .val (.lst (dueL p f rows)), v6, .val (.lst (dueL p f rows)), v8] = retM false := by
    unfold hoC
    generalize dEqU = eqf at *
    generalize cReprU = rp at *
    generalize dueL p f rows = du at *
    generalize tb (p * p) f = t0 at *
    funext q
    simp [runD, env0, mSeq, mIfS, mNot, mB, mIsC, mVar, isC, mRet, mC, mTV, mAnd, mOr, mBin, mFld, dEqF, flV, retM, DL.bindM, mNx, mCall, lenM, mCons, mNil, mTup, mIsT, isT, mSet, mAsg, tgTup, tgCons, tgN, tgNil, mCallO, lenO, runO, mRetO, mLst, mIf, mUn, dNegI, mIsT2, mNoP, mPart, oListC, mDrop, mNever, h3, h4]
  unfold mHot
  have hl : ([.val .pot, .val (.int p), .val (.lst (tb (p * p) f)), v3, v4, .val (.lst (dueL p f rows)), v6, v7, v8] : Env').length = 9 := rfl
  rw [if_pos (by rw [hl]; decide)]
  rw [h1, bindM_ret]
  show DL.bindM (hoM2 [.val .pot, .val (.int p), .val (.lst (tb (p * p) f)), v3, v4, .val (.lst (dueL p f rows)), v6, .un, v8]) _ = _
  rw [h2, bindM_ret, if_pos (by simp [runD, env0, mSeq, mIfS, mNot, mB, mIsC, mVar, isC, mRet, mC, mTV, mAnd, mOr, mBin, mFld, dEqF, flV, retM, DL.bindM, mNx, mCall, lenM, mCons, mNil, mTup, mIsT, isT, mSet, mAsg, tgTup, tgCons, tgN, tgNil, mCallO, lenO, runO, mRetO, mLst, mIf, mUn, dNegI, mIsT2, mNoP, mPart, oListC, mDrop, mNever])]
  show DL.bindM (hoC [.val .pot, .val (.int p), .val (.lst (tb (p * p) f)), v3, v4, .val (.lst (dueL p f rows)), v6, .val (.lst (dueL p f rows)), v8]) _ = _
  rw [hcc, bindM_ret, if_neg (by decide)]
  rw [ed, if_pos ⟨c1, c2⟩]
  rfl
theorem law_one {f : Nat → Nat} {rows : List (List Nat)} (T : Tl p f rows) : d__law_one_right [.pot, .int p, .lst (tb (p * p) f)] = retM (.bl true) := by
  have hsq := T.sq
  obtain ⟨t, h3⟩ := due_repr T
  have h4 := eqU_str false t
  obtain ⟨sh, h5⟩ := repr_tb (N := p * p) (f := f) hsq fun i hi => by have := T.hf.lt i hi; omega
  have h6 := eqU_str false sh
  have h7 := law_order_eq T.c hsq T.sq0
  have h8 := law_even_eq (N := p * p) (by omega) f
  have hpos := T.c.ord_pos
  have h9 := law_done_eq T.hf (by omega) (ord rows - 1)
  have e9 : ((ord rows - 1 : Nat) : Int) = (ord rows : Int) - 1 := by omega
  rw [e9] at h9
  have b1 := ho_body T (.val (.str sh)) (.val (.lst (rowsD rows))) (.val (.int 0)) .un .un
  have b2 := ho_body T (.val (.str sh)) (.val (.lst (rowsD rows))) (.val (.int 1)) .un .un
  have n1 := runD_of (cyctold T.hp T.hf T.cy (hd_lst p f))
  have n2 := ordertold T.hp T.hf T.cy T.c (hd_lst p f)
  have n3 := evendeal_eq T.hp T.hf (hd_lst p f)
  have n4 := runD_of (T.und (hd_lst p f))
  have n5 := isdealtold T.hp T.hf (hd_tup p f)
  have n1' : d_cycles [.int p, .lst (tb (p * p) f)] = retM (.lst (rowsD rows)) := n1
  have n4' : d_undone_deal [.int p, .lst (tb (p * p) f)] = retM (.lst (tb (p * p) (pw f (ord rows - 1)))) := n4
  have lr := T.lr
  have hm : m__law_one_right = mSeq (mPar 3 4 (mCons (mCall cReprU (mCons (mVar 2) mNil)) (mCons (mLst (mCallO (lenO 1 o__law_rounds) (mCons (mVar 2) mNil))) mNil))) (mSeq (mSet 5 (mLst (mNew (mCons (mVar 4) (mCons (mCall (lenM 1 d__law_order) (mCons (mVar 4) mNil)) (mCons (mCall (lenM 1 d__law_is_even) (mCons (mVar 2) mNil)) (mCons (mLst (mCallO (lenO 2 o__law_done) (mCons (mVar 2) (mCons (mBin dSubI (mCall (lenM 1 d__law_order) (mCons (mVar 4) mNil)) (mC (.int 1))) mNil)))) (mCons (mC (.bl true)) mNil)))))))) (mSeq (mFor (srcR1 (mCons (mC (.int 2)) mNil)) (tgN 6) (mHot 7 3 hoM1 hoM2 hoC (mC (.bl false)))) (mSeq (mSet 8 (mLst (mNew (mCons (mCall (pickM 2 [1, 0] d_cycles) (mCons (mVar 2) (mCons (mVar 1) mNil))) (mCons (mCall (pickM 2 [1, 0] d_order) (mCons (mVar 2) (mCons (mVar 1) mNil))) (mCons (mCall (pickM 2 [1, 0] d_is_even_deal) (mCons (mVar 2) (mCons (mVar 1) mNil))) mNil)))))) (mSeq (mSet 8 (mLst (oCat (mVar 8) (mLst (mNew (mCons (mCall (pickM 2 [1, 0] d_undone_deal) (mCons (mVar 2) (mCons (mVar 1) mNil))) (mCons (mCall (pickM 2 [1, 0] d_is_deal) (mCons (mCall cTup (mCons (mVar 2) mNil)) (mCons (mVar 1) mNil))) mNil))))))) (mRet (mTV (mAnd (mB (mBin (dEqU false) (mCall cReprU (mCons (mVar 8) mNil)) (mCall cReprU (mCons (mVar 5) mNil)))) (mB (mBin (dEqU false) (mCall cReprU (mCons (mVar 2) mNil)) (mVar 3)))))))))) := rfl
  unfold dueL at h3 b1 b2
  generalize mHot 7 3 hoM1 hoM2 hoC (mC (.bl false)) = body at *
  generalize dEqU = eqf at *
  generalize cReprU = rp at *
  generalize (!(sg (p * p) f)) = b at *
  generalize tb (p * p) (pw f (ord rows - 1)) = t2 at *
  generalize tb (p * p) f = t1 at *
  generalize rowsD rows = r at *
  generalize ((ord rows : Nat) : Int) = o at *
  have er : rngD 0 2 = [.int 0, .int 1] := rfl
  funext q
  simp [runD, env0, mSeq, mIfS, mNot, mB, mIsC, mVar, isC, mRet, mC, mTV, mAnd, mOr, mBin, mFld, dEqF, flV, retM, DL.bindM, mNx, mCall, lenM, mCons, mNil, mTup, mIsT, isT, mSet, mAsg, tgTup, tgCons, tgN, tgNil, mCallO, lenO, runO, mRetO, mLst, mIf, mUn, dNegI, mIsT2, mNoP, mPart, oListC, mDrop, mNever, d__law_one_right, hm, mPar, h5, lr, mNew, h7, h8, dSubI, dII, h9, mFor, srcR1, er, loopM, mTg, b1, b2, pickM, pk2, n1', n2, n3, oCat, n4', cTup, n5, h3, h4, h6]
end Q
end

section
set_option Elab.async false
set_option linter.all false
set_option maxRecDepth 100000
set_option maxHeartbeats 4000000
set_option exponentiation.threshold 20000
/-! k47: the law on a deal so often done. -/
namespace Q
open DL PySem PyProof.Rows Pa
variable {p : Nat}
theorem eqU_int (ne : Bool) (a b : Int) : dEqU ne (.int a) (.int b) = retM (.bl (decide (a = b) != ne)) := by
  unfold dEqU dEqR
  rw [dOr_ret (a := .bl (decide (a = b) != ne))]
  simp [runD, env0, mSeq, mIfS, mNot, mB, mIsC, mVar, isC, mRet, mC, mTV, mAnd, mOr, mBin, mFld, dEqF, flV, retM, DL.bindM, mNx, mCall, lenM, mCons, mNil, mTup, mIsT, isT, mSet, mAsg, tgTup, tgCons, tgN, tgNil, mCallO, lenO, runO, mRetO, mLst, mIf, mUn, dNegI, mIsT2, mNoP, mPart, oListC, mDrop, mNever, L2.scal]
theorem eqU_bl (ne b : Bool) : dEqU ne (.bl b) (.bl b) = retM (.bl (!ne)) := by
  unfold dEqU dEqR
  rw [dOr_ret (a := .bl (!ne))]
  cases b <;> cases ne <;> rfl
theorem pow106 : dPowI (.int 10) (.int 6) = retM (.int 1000000) := by
  funext q
  simp [runD, env0, mSeq, mIfS, mNot, mB, mIsC, mVar, isC, mRet, mC, mTV, mAnd, mOr, mBin, mFld, dEqF, flV, retM, DL.bindM, mNx, mCall, lenM, mCons, mNil, mTup, mIsT, isT, mSet, mAsg, tgTup, tgCons, tgN, tgNil, mCallO, lenO, runO, mRetO, mLst, mIf, mUn, dNegI, mIsT2, mNoP, mPart, oListC, mDrop, mNever, dPowI, dII]
noncomputable def tmS : Env' → Mo D := mLst (oCat (mLst (mNew (mCons (mC (.int 0)) (mCons (mC (.int 1)) (mCons (mC (.int 2)) (mCons (mCall (lenM 2 d__law_draw) (mCons (mVar 0) (mCons (mC (.int 99)) mNil))) (mCons (mCall (lenM 2 d__law_draw) (mCons (mVar 0) (mCons (mBin dAddI (mBin dPowI (mC (.int 10)) (mC (.int 6))) (mC (.int 1))) mNil))) (mCons (mBin dPowI (mC (.int 10)) (mC (.int 6))) mNil)))))))) (mIf (mB (mBin dLe (mVar 3) (mBin dPowI (mC (.int 10)) (mC (.int 6))))) (mLst (mNew (mCons (mVar 3) (mCons (mBin dSubI (mVar 3) (mC (.int 1))) mNil)))) (mLst (mNew mNil))))
theorem tm_s {q : Pt} (hq : Good q) {o : Nat} (ho : 0 < o) (v1 v2 v4 v5 v6 v7 v8 v9 : SV) : ∃ (ls : List Nat) (q' : Pt), tmS [.val .pot, v1, v2, .val (.int (o : Nat)), v4, v5, v6, v7, v8, v9] q = some (.lst (nl ls), q') ∧ (∀ m ∈ ls, m ≤ 1000000) ∧ ls.length ≤ 10 ∧ Good q' := by
  obtain ⟨a, q1, e1, r1, g1⟩ := law_draw hq (many := 99) (by omega) (by omega)
  obtain ⟨b, q2, e2, r2, g2⟩ := law_draw g1 (many := 1000001) (by omega) (by omega)
  have hp := pow106
  refine ⟨[0, 1, 2, a, b, 1000000] ++ (if o ≤ 1000000 then [o, o - 1] else []), q2, ?_, fun m hm => ?_, ?_, g2⟩
  · unfold tmS
    generalize dPowI = pw at *
    by_cases z : o ≤ 1000000
    · rw [if_pos z]
      have z2 : (o : Int) ≤ 1000000 := by omega
      have en : nl ([0, 1, 2, a, b, 1000000] ++ [o, o - 1]) = [.int 0, .int 1, .int 2, .int (a : Nat), .int (b : Nat), .int 1000000] ++ [.int (o : Nat), .int ((o : Int) - 1)] := by
        unfold nl
        have e3 : ((o - 1 : Nat) : Int) = (o : Int) - 1 := by omega
        simp [runD, env0, mSeq, mIfS, mNot, mB, mIsC, mVar, isC, mRet, mC, mTV, mAnd, mOr, mBin, mFld, dEqF, flV, retM, DL.bindM, mNx, mCall, lenM, mCons, mNil, mTup, mIsT, isT, mSet, mAsg, tgTup, tgCons, tgN, tgNil, mCallO, lenO, runO, mRetO, mLst, mIf, mUn, dNegI, mIsT2, mNoP, mPart, oListC, mDrop, mNever, e3]
      rw [en]
      simp [runD, env0, mSeq, mIfS, mNot, mB, mIsC, mVar, isC, mRet, mC, mTV, mAnd, mOr, mBin, mFld, dEqF, flV, retM, DL.bindM, mNx, mCall, lenM, mCons, mNil, mTup, mIsT, isT, mSet, mAsg, tgTup, tgCons, tgN, tgNil, mCallO, lenO, runO, mRetO, mLst, mIf, mUn, dNegI, mIsT2, mNoP, mPart, oListC, mDrop, mNever, oCat, mNew, e1, hp, dAddI, dSubI, dLe, dII, e2, z2]
    · rw [if_neg z]
      have z2 : ¬ (o : Int) ≤ 1000000 := by omega
      have en : nl ([0, 1, 2, a, b, 1000000] ++ []) = [.int 0, .int 1, .int 2, .int (a : Nat), .int (b : Nat), .int 1000000] ++ [] := by
        unfold nl
        simp [runD, env0, mSeq, mIfS, mNot, mB, mIsC, mVar, isC, mRet, mC, mTV, mAnd, mOr, mBin, mFld, dEqF, flV, retM, DL.bindM, mNx, mCall, lenM, mCons, mNil, mTup, mIsT, isT, mSet, mAsg, tgTup, tgCons, tgN, tgNil, mCallO, lenO, runO, mRetO, mLst, mIf, mUn, dNegI, mIsT2, mNoP, mPart, oListC, mDrop, mNever]
      rw [en]
      simp [runD, env0, mSeq, mIfS, mNot, mB, mIsC, mVar, isC, mRet, mC, mTV, mAnd, mOr, mBin, mFld, dEqF, flV, retM, DL.bindM, mNx, mCall, lenM, mCons, mNil, mTup, mIsT, isT, mSet, mAsg, tgTup, tgCons, tgN, tgNil, mCallO, lenO, runO, mRetO, mLst, mIf, mUn, dNegI, mIsT2, mNoP, mPart, oListC, mDrop, mNever, oCat, mNew, e1, hp, dAddI, dLe, dII, e2, z2]
  · rcases List.mem_append.mp hm with h | h
    · simp only [List.mem_cons, List.not_mem_nil, or_false] at h
      omega
    · split at h
      · simp only [List.mem_cons, List.not_mem_nil, or_false] at h
        omega
      · cases h
  · rw [List.length_append]
    split <;> simp [runD, env0, mSeq, mIfS, mNot, mB, mIsC, mVar, isC, mRet, mC, mTV, mAnd, mOr, mBin, mFld, dEqF, flV, retM, DL.bindM, mNx, mCall, lenM, mCons, mNil, mTup, mIsT, isT, mSet, mAsg, tgTup, tgCons, tgN, tgNil, mCallO, lenO, runO, mRetO, mLst, mIf, mUn, dNegI, mIsT2, mNoP, mPart, oListC, mDrop, mNever]
noncomputable def tmC1 : Env' → Mo Bool := mOr (mBorT 7 (mB (mBin (dEqU true) (mCall cReprU (mCons (mVar 7) mNil)) (mCall cReprU (mCons (mLst (mCallO (lenO 2 o__law_done) (mCons (mVar 2) (mCons (mVar 6) mNil)))) mNil))))) (mBorT 7 (mB (mBin (dEqU true) (mBor 7 (mBin (dEqU false) (mVar 7) (mVar 4))) (mBin (dEqU false) (mBin dModI (mCall cInt (mCons (mVar 6) mNil)) (mVar 3)) (mC (.int 0))))))
noncomputable def tmC2 : Env' → Mo Bool := mB (mBin (dEqU true) (mCall cReprU (mCons (mCall (pickM 3 [2, 1, 0] d_done_deal) (mCons (mVar 6) (mCons (mCall cTup (mCons (mVar 2) mNil)) (mCons (mVar 1) mNil)))) mNil)) (mCall cReprU (mCons (mLst (mCallO (lenO 2 o__law_done) (mCons (mVar 2) (mCons (mVar 6) mNil)))) mNil)))
noncomputable def tmB : MS := mSeq (mSetO 7 (mCallO (lenO 3 o_done_deal) (mCons (mVar 1) (mCons (mVar 2) (mCons (mVar 6) mNil))))) (mSeq (mIfS tmC1 (mRet (mC (.bl false))) mNx) (mSeq (mApp 7 (mVar 6)) (mIfS tmC2 (mRet (mC (.bl false))) mNx)))
theorem pw_repr {f : Nat → Nat} {rows : List (List Nat)} (T : Tl p f rows) (m : Nat) : ∃ t, cReprU [.lst (tb (p * p) (pw f m))] = retM (.str t) :=
  repr_tb T.sq fun i hi => by have := (pw_pm T.hf m).lt i hi; have := T.sq; omega
open Classical in
theorem tm_c1 {f : Nat → Nat} {rows : List (List Nat)} (T : Tl p f rows) (m : Nat) (v5 v8 v9 : SV) : tmC1 [.val .pot, .val (.int p), .val (.lst (tb (p * p) f)), .val (.int (ord rows : Nat)), .val (.lst (tb (p * p) fun i => i)), v5, .val (.int (m : Nat)), .own (tb (p * p) (pw f m)), v8, v9] = retM false := by
  have hsq := T.sq
  obtain ⟨t, h1⟩ := pw_repr T m
  have h2 := eqU_str true t
  have h3 := law_done_eq T.hf (by omega) m
  have h4 := eq_tb false (p * p) (pw f m) (fun i => i)
  have h5 := modN m T.c.ord_pos
  have h6 := eqU_int false ((m % ord rows : Nat) : Int) 0
  have e : (decide (∀ i, i < p * p → pw f m i = i) != false) = (decide (((m % ord rows : Nat) : Int) = 0) != false) := by
    congr 1
    refine decide_eq_decide.mpr ⟨fun h => ?_, fun h => (T.c.home m).mpr (Nat.dvd_of_mod_eq_zero (by omega))⟩
    have := (T.c.home m).mp h
    rw [Nat.mod_eq_zero_of_dvd this]
    rfl
  rw [e] at h4
  have h7 := eqU_bl true (decide (((m % ord rows : Nat) : Int) = 0) != false)
  clear e
  unfold tmC1
  generalize dEqU = eqf at *
  generalize dModI = md at *
  generalize cReprU = rp at *
  generalize (decide (((m % ord rows : Nat) : Int) = 0) != false) = b at *
  generalize ((m % ord rows : Nat) : Int) = r at *
  generalize tb (p * p) (pw f m) = t2 at *
  generalize (tb (p * p) fun i => i) = t0 at *
  generalize tb (p * p) f = t1 at *
  funext q
  simp [runD, env0, mSeq, mIfS, mNot, mB, mIsC, mVar, isC, mRet, mC, mTV, mAnd, mOr, mBin, mFld, dEqF, flV, retM, DL.bindM, mNx, mCall, lenM, mCons, mNil, mTup, mIsT, isT, mSet, mAsg, tgTup, tgCons, tgN, tgNil, mCallO, lenO, runO, mRetO, mLst, mIf, mUn, dNegI, mIsT2, mNoP, mPart, oListC, mDrop, mNever, mBorT, h1, h3, h2, mBor, h4, cInt, h5, h6, h7]
theorem tm_c2 {f : Nat → Nat} {rows : List (List Nat)} (T : Tl p f rows) {m : Nat} (hm : m ≤ 1000000) (v3 v4 v5 v7 v8 v9 : SV) : tmC2 [.val .pot, .val (.int p), .val (.lst (tb (p * p) f)), v3, v4, v5, .val (.int (m : Nat)), v7, v8, v9] = retM false := by
  have hsq := T.sq
  obtain ⟨t, h1⟩ := pw_repr T m
  have h2 := eqU_str true t
  have h3 := law_done_eq T.hf (by omega) m
  have h4 : d_done_deal [.int p, .tup (tb (p * p) f), .int (m : Nat)] = retM (.lst (tb (p * p) (pw f m))) := runD_of (donetold T.hp T.hf (hd_tup p f) hm)
  unfold tmC2
  generalize dEqU = eqf at *
  generalize cReprU = rp at *
  generalize tb (p * p) (pw f m) = t2 at *
  generalize tb (p * p) f = t1 at *
  funext q
  simp [runD, env0, mSeq, mIfS, mNot, mB, mIsC, mVar, isC, mRet, mC, mTV, mAnd, mOr, mBin, mFld, dEqF, flV, retM, DL.bindM, mNx, mCall, lenM, mCons, mNil, mTup, mIsT, isT, mSet, mAsg, tgTup, tgCons, tgN, tgNil, mCallO, lenO, runO, mRetO, mLst, mIf, mUn, dNegI, mIsT2, mNoP, mPart, oListC, mDrop, mNever, pickM, pk3, cTup, h4, h1, h3, h2]
theorem tm_loop {f : Nat → Nat} {rows : List (List Nat)} (T : Tl p f rows) (v5 v8 v9 : SV) : ∀ (ls : List Nat) (v6 v7 : SV), (∀ m ∈ ls, m ≤ 1000000) → ∃ w6 w7, loopM (mTg (tgN 6) tmB) (nl ls) [.val .pot, .val (.int p), .val (.lst (tb (p * p) f)), .val (.int (ord rows : Nat)), .val (.lst (tb (p * p) fun i => i)), v5, v6, v7, v8, v9] = retM (.nx, [.val .pot, .val (.int p), .val (.lst (tb (p * p) f)), .val (.int (ord rows : Nat)), .val (.lst (tb (p * p) fun i => i)), v5, w6, w7, v8, v9])
  | [], v6, v7, _ => ⟨v6, v7, rfl⟩
  | m :: ls, v6, v7, hm => by
    have hm0 := hm m List.mem_cons_self
    obtain ⟨w6, w7, e⟩ := tm_loop T v5 v8 v9 ls (.val (.int (m : Nat))) (.own (tb (p * p) (pw f m) ++ [.int (m : Nat)])) fun m' h => hm m' (List.mem_cons_of_mem _ h)
    refine ⟨w6, w7, ?_⟩
    have hsq := T.sq
    have h1 := donetold T.hp T.hf (hd_lst p f) hm0
    have h2 := tm_c1 T m v5 v8 v9
    have h3 := tm_c2 T hm0 (.val (.int (ord rows : Nat))) (.val (.lst (tb (p * p) fun i => i))) v5 (.own (tb (p * p) (pw f m) ++ [.int (m : Nat)])) v8 v9
    have h4 : (tb (p * p) (pw f m)).length ≤ 100000 := by rw [tb_len]; omega
    have en : nl (m :: ls) = .int (m : Nat) :: nl ls := rfl
    rw [← e, en]
    unfold tmB
    generalize tmC1 = c1 at *
    generalize tmC2 = c2 at *
    generalize tb (p * p) (pw f m) = t2 at *
    generalize (tb (p * p) fun i => i) = t0 at *
    generalize tb (p * p) f = t1 at *
    funext q
    conv => lhs; unfold loopM
    simp [runD, env0, mSeq, mIfS, mNot, mB, mIsC, mVar, isC, mRet, mC, mTV, mAnd, mOr, mBin, mFld, dEqF, flV, retM, DL.bindM, mNx, mCall, lenM, mCons, mNil, mTup, mIsT, isT, mSet, mAsg, tgTup, tgCons, tgN, tgNil, mCallO, lenO, runO, mRetO, mLst, mIf, mUn, dNegI, mIsT2, mNoP, mPart, oListC, mDrop, mNever, mTg, mSetO, h1, h2, mApp, h4, h3]
noncomputable def tmE : Env' → Mo D := mBor 7 (mBin (dEqU false) (mCall cReprU (mCons (mVar 7) mNil)) (mCall cReprU (mCons (mLst (mCallO (lenO 2 o__law_done) (mCons (mVar 2) (mCons (mBin dAddI (mVar 8) (mVar 9)) mNil)))) mNil)))
theorem tm_e {f : Nat → Nat} {rows : List (List Nat)} (T : Tl p f rows) (a b : Nat) (v0 v1 v3 v4 v5 v6 : SV) : tmE [v0, v1, .val (.lst (tb (p * p) f)), v3, v4, v5, v6, .own (tb (p * p) (pw f (a + b))), .val (.int (a : Nat)), .val (.int (b : Nat))] = retM (.bl true) := by
  have hsq := T.sq
  obtain ⟨t, h1⟩ := pw_repr T (a + b)
  have h2 := eqU_str false t
  have h3 := law_done_eq T.hf (by omega) (a + b)
  rw [Int.natCast_add] at h3
  unfold tmE
  generalize dEqU = eqf at *
  generalize cReprU = rp at *
  generalize tb (p * p) (pw f (a + b)) = t2 at *
  generalize tb (p * p) f = t1 at *
  funext q
  simp [runD, env0, mSeq, mIfS, mNot, mB, mIsC, mVar, isC, mRet, mC, mTV, mAnd, mOr, mBin, mFld, dEqF, flV, retM, DL.bindM, mNx, mCall, lenM, mCons, mNil, mTup, mIsT, isT, mSet, mAsg, tgTup, tgCons, tgN, tgNil, mCallO, lenO, runO, mRetO, mLst, mIf, mUn, dNegI, mIsT2, mNoP, mPart, oListC, mDrop, mNever, mBor, h1, dAddI, dII, h3, h2, borOk, LF]
theorem law_times {f : Nat → Nat} {rows : List (List Nat)} (T : Tl p f rows) {q : Pt} (hq : Good q) : ∃ q', d__law_times_right [.pot, .int p, .lst (tb (p * p) f)] q = some (.bl true, q') ∧ Good q' := by
  have hsq := T.sq
  have h1 := T.lr
  have h2 := law_order_eq T.c hsq T.sq0
  have hlen : (tb (p * p) f).length = p * p := tb_len
  have h3 : oRg1 (mCall cLen (mCons (mVar 2) mNil)) [.val .pot, .val (.int p), .val (.lst (tb (p * p) f)), .un, .un, .un, .un, .un, .un, .un] = retM (tb (p * p) fun i => i) := by
    rw [rg1 (n := p * p) (by generalize tb (p * p) f = t at *; funext q; simp [runD, env0, mSeq, mIfS, mNot, mB, mIsC, mVar, isC, mRet, mC, mTV, mAnd, mOr, mBin, mFld, dEqF, flV, retM, DL.bindM, mNx, mCall, lenM, mCons, mNil, mTup, mIsT, isT, mSet, mAsg, tgTup, tgCons, tgN, tgNil, mCallO, lenO, runO, mRetO, mLst, mIf, mUn, dNegI, mIsT2, mNoP, mPart, oListC, mDrop, mNever, cLen, hlen]) (by omega), ← tb_id]
  obtain ⟨ls, q1, e1, hls, _, g1⟩ := tm_s hq T.c.ord_pos (.val (.int p)) (.val (.lst (tb (p * p) f))) (.val (.lst (tb (p * p) fun i => i))) .un .un .un .un .un
  obtain ⟨w6, w7, e2⟩ := tm_loop T (.val (.lst (nl ls))) .un .un ls .un .un hls
  obtain ⟨a, q2, e3, r3, g2⟩ := law_draw g1 (many := 999) (by omega) (by omega)
  obtain ⟨b, q3, e4, r4, g3⟩ := law_draw g2 (many := 999) (by omega) (by omega)
  have h5 := donetold T.hp T.hf (hd_lst p f) (m := a) (by omega)
  have h6 := donetold T.hp T.hf (hd_lst p f) (m := b) (by omega)
  have h7 := behind_told T.hp (pw_pm T.hf a) (pw_pm T.hf b) (hd_lst p (pw f a)) (hd_lst p (pw f b))
  have h7' : o_behind_deal [.int p, .lst (tb (p * p) (pw f a)), .lst (tb (p * p) (pw f b))] = retM (tb (p * p) (pw f (a + b))) := by
    rw [h7]
    exact congrArg retM (tb_congr fun i _ => (pw_add f a b i).symm)
  have h8 := tm_e T a b (.val .pot) (.val (.int p)) (.val (.int (ord rows : Nat))) (.val (.lst (tb (p * p) fun i => i))) (.val (.lst (nl ls))) w6
  refine ⟨q3, ?_, g3⟩
  have hm : m__law_times_right = mSeq (mPar 3 4 (mCons (mCall (lenM 1 d__law_order) (mCons (mLst (mCallO (lenO 1 o__law_rounds) (mCons (mVar 2) mNil))) mNil)) (mCons (mLst (oRg1 (mCall cLen (mCons (mVar 2) mNil)))) mNil))) (mSeq (mSet 5 tmS) (mSeq (mFor (srcL (mVar 5)) (tgN 6) tmB) (mSeq (mPar 8 9 (mCons (mCall (lenM 2 d__law_draw) (mCons (mVar 0) (mCons (mC (.int 999)) mNil))) (mCons (mCall (lenM 2 d__law_draw) (mCons (mVar 0) (mCons (mC (.int 999)) mNil))) mNil))) (mSeq (mSetO 7 (mCallO (lenO 3 o_behind_deal) (mCons (mVar 1) (mCons (mLst (mCallO (lenO 3 o_done_deal) (mCons (mVar 1) (mCons (mVar 2) (mCons (mVar 8) mNil))))) (mCons (mLst (mCallO (lenO 3 o_done_deal) (mCons (mVar 1) (mCons (mVar 2) (mCons (mVar 9) mNil))))) mNil))))) (mRet tmE))))) := rfl
  clear h7
  generalize oRg1 (mCall cLen (mCons (mVar 2) mNil)) = rg at *
  generalize tmS = xs at *
  generalize tmB = xb at *
  generalize tmE = xe at *
  generalize tb (p * p) (pw f (a + b)) = t4 at *
  generalize tb (p * p) (pw f a) = t2 at *
  generalize tb (p * p) (pw f b) = t3 at *
  generalize (tb (p * p) fun i => i) = t0 at *
  generalize tb (p * p) f = t1 at *
  generalize nl ls = l at *
  generalize rowsD rows = r at *
  simp [runD, env0, mSeq, mIfS, mNot, mB, mIsC, mVar, isC, mRet, mC, mTV, mAnd, mOr, mBin, mFld, dEqF, flV, retM, DL.bindM, mNx, mCall, lenM, mCons, mNil, mTup, mIsT, isT, mSet, mAsg, tgTup, tgCons, tgN, tgNil, mCallO, lenO, runO, mRetO, mLst, mIf, mUn, dNegI, mIsT2, mNoP, mPart, oListC, mDrop, mNever, d__law_times_right, hm, mPar, h1, h2, h3, e1, mFor, srcL, e2, e3, e4, mSetO, h5, h6, h7', h8]
end Q
end

section
set_option Elab.async false
set_option linter.all false
set_option maxRecDepth 100000
set_option maxHeartbeats 4000000
set_option exponentiation.threshold 20000
/-! k47: squares. -/
namespace Q
open DL PySem PyProof.Rows Pa
variable {p : Nat}
theorem big1 : 1 < bigN := Nat.lt_trans (by decide +kernel : 1 < 121 ^ 121) big121
theorem bigm : 1000000 < bigN := Nat.lt_trans (by decide +kernel : 1000000 < 121 ^ 121) big121
theorem init1 (n : Int) : d_Ratio___init__ [.int n, .int 1] = retM (.ins 0 [.int n, .int 1]) := by
  have h1 := isint_eq (d := .int n) fun z => nomatch z
  have h2 := isint_eq (d := .int 1) fun z => nomatch z
  have h3 : isI (.int n) = true := rfl
  have h4 : isI (.int 1) = true := rfl
  rw [h3] at h1
  rw [h4] at h2
  have hg : Nat.gcd n.natAbs 1 = 1 := Nat.gcd_one_right _
  have hb := big1
  have e1 : n.fdiv 1 = n := Int.fdiv_one n
  have e2 : (1 : Int).fdiv 1 = 1 := Int.fdiv_one 1
  funext q
  simp [runD, env0, mSeq, mIfS, mNot, mB, mIsC, mVar, isC, mRet, mC, mTV, mAnd, mOr, mBin, mFld, dEqF, flV, retM, DL.bindM, mNx, mCall, lenM, mCons, mNil, mTup, mIsT, isT, mSet, mAsg, tgTup, tgCons, tgN, tgNil, mCallO, lenO, runO, mRetO, mLst, mIf, mUn, dNegI, mIsT2, mNoP, mPart, oListC, mDrop, mNever, d_Ratio___init__, m_Ratio___init__, runI, envI, h1, h2, dLt, dII, d_common_part, m_common_part, cGcd, dSubI, mFldAt, mFldSet, dDivI, L2.scal, hb, hg, e1, e2]
theorem want_num (n : Int) : d_want_number [.int n] = retM (.ins 0 [.int n, .int 1]) := by
  have h1 := isint_eq (d := .int n) fun z => nomatch z
  have h3 : isI (.int n) = true := rfl
  rw [h3] at h1
  have h2 := init1 n
  funext q
  simp [runD, env0, mSeq, mIfS, mNot, mB, mIsC, mVar, isC, mRet, mC, mTV, mAnd, mOr, mBin, mFld, dEqF, flV, retM, DL.bindM, mNx, mCall, lenM, mCons, mNil, mTup, mIsT, isT, mSet, mAsg, tgTup, tgCons, tgN, tgNil, mCallO, lenO, runO, mRetO, mLst, mIf, mUn, dNegI, mIsT2, mNoP, mPart, oListC, mDrop, mNever, d_want_number, m_want_number, d_is_number, m_is_number, h1, d_ratio_of, m_ratio_of, mk_Ratio_1, h2]
theorem und1 (hp : isP p) : d_undone_rest [.int 1, .int p] = retM (.int 1) := by
  rcases hp with rfl | rfl | rfl | rfl <;> (funext q; rfl)
theorem rest_of_eq (hp : isP p) {n : Int} (hn : n.natAbs ≤ 1000000) : d_rest_of [.ins 0 [.int n, .int 1], .int p] = retM (.int (n % (p : Int))) := by
  have h1 := und1 hp
  have hpos := hp.pos
  have hb1 := big1
  have hb2 : n.natAbs < bigN := Nat.lt_of_le_of_lt hn bigm
  have hb3 : 0 < p := by omega
  funext q
  simp [runD, env0, mSeq, mIfS, mNot, mB, mIsC, mVar, isC, mRet, mC, mTV, mAnd, mOr, mBin, mFld, dEqF, flV, retM, DL.bindM, mNx, mCall, lenM, mCons, mNil, mTup, mIsT, isT, mSet, mAsg, tgTup, tgCons, tgN, tgNil, mCallO, lenO, runO, mRetO, mLst, mIf, mUn, dNegI, mIsT2, mNoP, mPart, oListC, mDrop, mNever, d_rest_of, m_rest_of, mProp, onC, d_Ratio_bottom, m_Ratio_bottom, d_Ratio_top, m_Ratio_top, h1, dIsN, dMulI, dII, hb1, hb2, cInt, dModI, hb3]
theorem rest_eq (hp : isP p) {n : Int} (hn : n.natAbs ≤ 1000000) : d_rest [.int n, .int p] = retM (.int (n % (p : Int))) := by
  have h1 := want_num n
  have h2 := want_prime_eq hp
  have h3 := rest_of_eq hp hn
  funext q
  simp [runD, env0, mSeq, mIfS, mNot, mB, mIsC, mVar, isC, mRet, mC, mTV, mAnd, mOr, mBin, mFld, dEqF, flV, retM, DL.bindM, mNx, mCall, lenM, mCons, mNil, mTup, mIsT, isT, mSet, mAsg, tgTup, tgCons, tgN, tgNil, mCallO, lenO, runO, mRetO, mLst, mIf, mUn, dNegI, mIsT2, mNoP, mPart, oListC, mDrop, mNever, d_rest, m_rest, h1, h2, h3, dIsN]
def sqN (n : Nat) : List D := (List.range n).map fun i => D.int ((i * i % n : Nat) : Int)
theorem sq_a (hp : isP p) (v0 : SV) : (mLc (srcR1 (mCons (mVar 1) mNil)) [2] (tgN 2) mYes (mBin dModI (mCall cInt (mCons (mBin dMulI (mVar 2) (mVar 2)) mNil)) (mVar 1))) [v0, .val (.int p), .un] = retM (sqN p) := by
  rcases hp with rfl | rfl | rfl | rfl <;> (funext q; rfl)
theorem sq_b (hp : isP p) (v0 v2 v3 v4 v5 : SV) : (mLc (srcR1 (mCons (mVar 1) mNil)) [5] (tgN 5) mYes (mBin dModI (mCall cInt (mCons (mBin dMulI (mVar 5) (mVar 5)) mNil)) (mVar 1))) [v0, .val (.int p), v2, v3, v4, v5] = retM (sqN p) := by
  rcases hp with rfl | rfl | rfl | rfl <;> (funext q; rfl)
theorem sq_ex (hp : isP p) {r : Nat} (hr : r < p) : ∃ b, dInF false (.int (r : Nat)) (.lst (sqN p)) = retM (.bl b) := by
  rcases hp with rfl | rfl | rfl | rfl
  · match r, hr with
    | 0, _ | 1, _ | 2, _ => first | exact ⟨true, by funext q; rfl⟩ | exact ⟨false, by funext q; rfl⟩
  · match r, hr with
    | 0, _ | 1, _ | 2, _ | 3, _ | 4, _ => first | exact ⟨true, by funext q; rfl⟩ | exact ⟨false, by funext q; rfl⟩
  · match r, hr with
    | 0, _ | 1, _ | 2, _ | 3, _ | 4, _ | 5, _ | 6, _ => first | exact ⟨true, by funext q; rfl⟩ | exact ⟨false, by funext q; rfl⟩
  · match r, hr with
    | 0, _ | 1, _ | 2, _ | 3, _ | 4, _ | 5, _ | 6, _ | 7, _ | 8, _ | 9, _ | 10, _ => first | exact ⟨true, by funext q; rfl⟩ | exact ⟨false, by funext q; rfl⟩
theorem sq_exI (hp : isP p) (n : Int) : ∃ b, dInF false (.int (n % (p : Int))) (.lst (sqN p)) = retM (.bl b) := by
  have hpos := hp.pos
  have h1 := Int.emod_nonneg n (b := (p : Int)) (by omega)
  have h2 := Int.emod_lt_of_pos n (b := (p : Int)) (by omega)
  obtain ⟨r, hr⟩ := Int.eq_ofNat_of_zero_le h1
  rw [hr]
  exact sq_ex hp (by omega)
theorem issq (hp : isP p) {n : Int} (hn : n.natAbs ≤ 1000000) {b : Bool} (hb : dInF false (.int (n % (p : Int))) (.lst (sqN p)) = retM (.bl b)) : d_is_square [.int n, .int p] = retM (.bl b) := by
  have h1 := rest_eq hp hn
  have h2 := sq_a hp (.val (.int n))
  have hm : m_is_square = mRet (mBin (dInF false) (mCall (lenM 2 d_rest) (mCons (mVar 0) (mCons (mVar 1) mNil))) (mLst (mLc (srcR1 (mCons (mVar 1) mNil)) [2] (tgN 2) mYes (mBin dModI (mCall cInt (mCons (mBin dMulI (mVar 2) (mVar 2)) mNil)) (mVar 1))))) := rfl
  generalize (mLc (srcR1 (mCons (mVar 1) mNil)) [2] (tgN 2) mYes (mBin dModI (mCall cInt (mCons (mBin dMulI (mVar 2) (mVar 2)) mNil)) (mVar 1))) = lc at *
  generalize dInF = inf at *
  generalize sqN p = s at *
  funext q
  simp [runD, env0, mSeq, mIfS, mNot, mB, mIsC, mVar, isC, mRet, mC, mTV, mAnd, mOr, mBin, mFld, dEqF, flV, retM, DL.bindM, mNx, mCall, lenM, mCons, mNil, mTup, mIsT, isT, mSet, mAsg, tgTup, tgCons, tgN, tgNil, mCallO, lenO, runO, mRetO, mLst, mIf, mUn, dNegI, mIsT2, mNoP, mPart, oListC, mDrop, mNever, d_is_square, hm, h1, h2, hb]
noncomputable def sqC : Env' → Mo Bool := mB (mBin (dEqU true) (mCall cReprU (mCons (mLst (mNew (mCons (mCall (lenM 2 d_is_square) (mCons (mVar 3) (mCons (mVar 1) mNil))) (mCons (mCall (pickM 2 [1, 0] d_is_square) (mCons (mVar 1) (mCons (mVar 3) mNil))) mNil)))) mNil)) (mCall cReprU (mCons (mLst (mNew (mCons (mVar 4) (mCons (mVar 4) mNil)))) mNil)))
noncomputable def sqB : MS := mFrz 2 (mSeq (mSet 4 (mBin (dInF false) (mBin dModI (mCall cInt (mCons (mVar 3) mNil)) (mVar 1)) (mVar 2))) (mIfS sqC (mRet (mC (.bl false))) mNx))
theorem bb_repr (b : Bool) : ∃ t, cReprU [.lst [.bl b, .bl b]] = retM (.str t) :=
  sh_repr (b := 18) (sh_lst (n := 3) (b := 5) (ds := [.bl b, .bl b]) fun d hd => by
    simp only [List.mem_cons, List.not_mem_nil, or_false, or_self] at hd
    subst hd
    exact sh_bl 3 b) (by decide)
theorem sq_body (hp : isP p) {n : Int} (hn : n.natAbs ≤ 1000000) (v0 v2 v4 v5 : SV) (h2 : v2 = .own (sqN p) ∨ v2 = .val (.lst (sqN p))) : ∃ w4, sqB [v0, .val (.int p), v2, .val (.int n), v4, v5] = retM (.nx, [v0, .val (.int p), .val (.lst (sqN p)), .val (.int n), w4, v5]) := by
  obtain ⟨b, hb⟩ := sq_exI hp n
  have h1 := issq hp hn hb
  obtain ⟨t, h3⟩ := bb_repr b
  have h4 := eqU_str true t
  have hpos := hp.pos
  have h5 : dModI (.int n) (.int p) = retM (.int (n % (p : Int))) := by
    have : 0 < p := by omega
    funext q
    simp [runD, env0, mSeq, mIfS, mNot, mB, mIsC, mVar, isC, mRet, mC, mTV, mAnd, mOr, mBin, mFld, dEqF, flV, retM, DL.bindM, mNx, mCall, lenM, mCons, mNil, mTup, mIsT, isT, mSet, mAsg, tgTup, tgCons, tgN, tgNil, mCallO, lenO, runO, mRetO, mLst, mIf, mUn, dNegI, mIsT2, mNoP, mPart, oListC, mDrop, mNever, dModI, dII, this]
  refine ⟨.val (.bl b), ?_⟩
  have hc : ∀ v2 : SV, sqC [v0, .val (.int p), v2, .val (.int n), .val (.bl b), v5] = retM false := fun v2 => by
    unfold sqC
    generalize dEqU = eqf at *
    generalize cReprU = rp at *
    funext q
    simp [runD, env0, mSeq, mIfS, mNot, mB, mIsC, mVar, isC, mRet, mC, mTV, mAnd, mOr, mBin, mFld, dEqF, flV, retM, DL.bindM, mNx, mCall, lenM, mCons, mNil, mTup, mIsT, isT, mSet, mAsg, tgTup, tgCons, tgN, tgNil, mCallO, lenO, runO, mRetO, mLst, mIf, mUn, dNegI, mIsT2, mNoP, mPart, oListC, mDrop, mNever, mNew, h1, pickM, pk2, h3, h4]
  have hc := hc (.val (.lst (sqN p)))
  unfold sqB
  generalize sqC = sc at *
  generalize dInF = inf at *
  generalize dModI = md at *
  generalize sqN p = s at *
  rcases h2 with rfl | rfl
  · funext q
    simp [runD, env0, mSeq, mIfS, mNot, mB, mIsC, mVar, isC, mRet, mC, mTV, mAnd, mOr, mBin, mFld, dEqF, flV, retM, DL.bindM, mNx, mCall, lenM, mCons, mNil, mTup, mIsT, isT, mSet, mAsg, tgTup, tgCons, tgN, tgNil, mCallO, lenO, runO, mRetO, mLst, mIf, mUn, dNegI, mIsT2, mNoP, mPart, oListC, mDrop, mNever, mFrz, cInt, h5, hb, hc]
  · funext q
    simp [runD, env0, mSeq, mIfS, mNot, mB, mIsC, mVar, isC, mRet, mC, mTV, mAnd, mOr, mBin, mFld, dEqF, flV, retM, DL.bindM, mNx, mCall, lenM, mCons, mNil, mTup, mIsT, isT, mSet, mAsg, tgTup, tgCons, tgN, tgNil, mCallO, lenO, runO, mRetO, mLst, mIf, mUn, dNegI, mIsT2, mNoP, mPart, oListC, mDrop, mNever, mFrz, cInt, h5, hb, hc]
theorem sq_loop (hp : isP p) (v0 v5 : SV) : ∀ (ns : List Int) (v2 v3 v4 : SV), (v2 = .own (sqN p) ∨ v2 = .val (.lst (sqN p))) → (∀ n ∈ ns, n.natAbs ≤ 1000000) → ∃ env', loopM (mTg (tgN 3) sqB) (ns.map .int) [v0, .val (.int p), v2, v3, v4, v5] = retM (.nx, env')
  | [], v2, v3, v4, _, _ => ⟨_, rfl⟩
  | n :: ns, v2, v3, v4, h2, hn => by
    obtain ⟨w4, e⟩ := sq_body hp (hn n List.mem_cons_self) v0 v2 v4 v5 h2
    obtain ⟨env', e2⟩ := sq_loop hp v0 v5 ns (.val (.lst (sqN p))) (.val (.int n)) w4 (.inr rfl) fun n' h => hn n' (List.mem_cons_of_mem _ h)
    refine ⟨env', ?_⟩
    rw [← e2, List.map_cons]
    generalize sqB = body at *
    generalize sqN p = s at *
    funext q
    conv => lhs; unfold loopM
    simp [runD, env0, mSeq, mIfS, mNot, mB, mIsC, mVar, isC, mRet, mC, mTV, mAnd, mOr, mBin, mFld, dEqF, flV, retM, DL.bindM, mNx, mCall, lenM, mCons, mNil, mTup, mIsT, isT, mSet, mAsg, tgTup, tgCons, tgN, tgNil, mCallO, lenO, runO, mRetO, mLst, mIf, mUn, dNegI, mIsT2, mNoP, mPart, oListC, mDrop, mNever, mTg, e]
theorem law_squares (hp : isP p) {q : Pt} (hq : Good q) : ∃ q', d__law_squares_right [.pot, .int p] q = some (.bl true, q') ∧ Good q' := by
  have hle := hp.le
  have hpos := hp.pos
  obtain ⟨r, q1, e1, r1, g1⟩ := law_draw hq (many := 1000000) (by omega) (by omega)
  have h1 := sq_b hp (.val .pot) .un .un .un .un
  have hp6 := pow106
  have ens : rngD (-(p : Int)) ((2 * (p : Int) - -(p : Int)).toNat) ++ [D.int ((r : Int) - 500000)] = (((List.range (2 * (p : Int) - -(p : Int)).toNat).map fun i => (-(p : Int) + (i : Nat))) ++ [(r : Int) - 500000]).map D.int := by
    unfold rngD
    rw [List.map_append, List.map_map]
    rfl
  obtain ⟨env', e2⟩ := sq_loop hp (.val .pot) .un (((List.range (2 * (p : Int) - -(p : Int)).toNat).map fun i => (-(p : Int) + (i : Nat))) ++ [(r : Int) - 500000]) (.own (sqN p)) .un .un (.inl rfl) fun n hn => by
    rcases List.mem_append.mp hn with h | h
    · obtain ⟨i, hi, rfl⟩ := List.mem_map.mp h
      have := List.mem_range.mp hi
      omega
    · rw [List.mem_singleton] at h
      omega
  rw [← ens] at e2
  refine ⟨q1, ?_, g1⟩
  have hm : m__law_squares_right = mSeq (mSetO 2 (mLc (srcR1 (mCons (mVar 1) mNil)) [5] (tgN 5) mYes (mBin dModI (mCall cInt (mCons (mBin dMulI (mVar 5) (mVar 5)) mNil)) (mVar 1)))) (mSeq (mFor (srcL (mLst (oCat (mLst (oRg2 (mUn dNegI (mVar 1)) (mBin dMulI (mC (.int 2)) (mVar 1)))) (mLst (mNew (mCons (mBin dSubI (mCall (lenM 2 d__law_draw) (mCons (mVar 0) (mCons (mBin dPowI (mC (.int 10)) (mC (.int 6))) mNil))) (mC (.int 500000))) mNil)))))) (tgN 3) sqB) (mRet (mC (.bl true)))) := rfl
  have hmul : dMulI (.int 2) (.int p) = retM (.int (2 * (p : Int))) := mul_ok (by decide) (by rw [Int.natAbs_natCast]; exact Nat.lt_of_le_of_lt hle (by decide +kernel))
  have b1 : (-1000000 : Int) ≤ 2 * (p : Int) := by omega
  have b2 : 2 * (p : Int) ≤ 1000000 := by omega
  have b3 : (-1000000 : Int) ≤ -(p : Int) := by omega
  have b4 : -(p : Int) ≤ 1000000 := by omega
  have hneg : dNegI (.int (p : Int)) = retM (.int (-(p : Int))) := rfl
  have hl : (rngD (-(p : Int)) ((2 * (p : Int) - -(p : Int)).toNat)).length + 1 ≤ 100000 := by
    unfold rngD
    rw [List.length_map, List.length_range]
    omega
  have hsrc : srcL (mLst (oCat (mLst (oRg2 (mUn dNegI (mVar 1)) (mBin dMulI (mC (.int 2)) (mVar 1)))) (mLst (mNew (mCons (mBin dSubI (mCall (lenM 2 d__law_draw) (mCons (mVar 0) (mCons (mBin dPowI (mC (.int 10)) (mC (.int 6))) mNil))) (mC (.int 500000))) mNil))))) [.val .pot, .val (.int p), .own (sqN p), .un, .un, .un] q = some (rngD (-(p : Int)) ((2 * (p : Int) - -(p : Int)).toNat) ++ [D.int ((r : Int) - 500000)], q1) := by
    generalize dNegI = ng at *
    generalize dMulI = mu at *
    generalize dPowI = pw at *
    generalize sqN p = s at *
    generalize -(p : Int) = np at *
    generalize 2 * (p : Int) = tp at *
    generalize hR : rngD np (tp - np).toNat = R at *
    simp [runD, env0, mSeq, mIfS, mNot, mB, mIsC, mVar, isC, mRet, mC, mTV, mAnd, mOr, mBin, mFld, dEqF, flV, retM, DL.bindM, mNx, mCall, lenM, mCons, mNil, mTup, mIsT, isT, mSet, mAsg, tgTup, tgCons, tgN, tgNil, mCallO, lenO, runO, mRetO, mLst, mIf, mUn, dNegI, mIsT2, mNoP, mPart, oListC, mDrop, mNever, srcL, oCat, oRg2, hneg, hmul, b1, b2, b3, b4, hR, mNew, hp6, e1, dSubI, dII, hl]
  generalize srcL (mLst (oCat (mLst (oRg2 (mUn dNegI (mVar 1)) (mBin dMulI (mC (.int 2)) (mVar 1)))) (mLst (mNew (mCons (mBin dSubI (mCall (lenM 2 d__law_draw) (mCons (mVar 0) (mCons (mBin dPowI (mC (.int 10)) (mC (.int 6))) mNil))) (mC (.int 500000))) mNil))))) = sr at *
  generalize (mLc (srcR1 (mCons (mVar 1) mNil)) [5] (tgN 5) mYes (mBin dModI (mCall cInt (mCons (mBin dMulI (mVar 5) (mVar 5)) mNil)) (mVar 1))) = lc at *
  generalize sqB = body at *
  generalize sqN p = s at *
  generalize rngD (-(p : Int)) ((2 * (p : Int) - -(p : Int)).toNat) ++ [D.int ((r : Int) - 500000)] = xs at *
  simp [runD, env0, mSeq, mIfS, mNot, mB, mIsC, mVar, isC, mRet, mC, mTV, mAnd, mOr, mBin, mFld, dEqF, flV, retM, DL.bindM, mNx, mCall, lenM, mCons, mNil, mTup, mIsT, isT, mSet, mAsg, tgTup, tgCons, tgN, tgNil, mCallO, lenO, runO, mRetO, mLst, mIf, mUn, dNegI, mIsT2, mNoP, mPart, oListC, mDrop, mNever, d__law_squares_right, hm, mSetO, h1, mFor, hsrc, e2]
end Q
end

section
set_option Elab.async false
set_option linter.all false
set_option maxRecDepth 100000
set_option maxHeartbeats 4000000
set_option exponentiation.threshold 20000
/-! k47: one deal behind another one: pieces. -/
namespace Q
open DL PySem PyProof.Rows Pa
variable {p : Nat}
/-- the contrary of f -/
def inv (f : Nat → Nat) (rows : List (List Nat)) : Nat → Nat := pw f (ord rows - 1)
theorem Tl.inv_l {f : Nat → Nat} {rows : List (List Nat)} (T : Tl p f rows) {i : Nat} (hi : i < p * p) : inv f rows (f i) = i := by
  have h := (T.c.home (ord rows)).mpr (Nat.dvd_refl _) i hi
  have hpos := T.c.ord_pos
  have e : pw f (ord rows) i = pw f (ord rows - 1) (f i) := by
    conv => lhs; rw [show ord rows = (ord rows - 1) + 1 by omega]
    rw [pw_add]
    rfl
  rw [e] at h
  exact h
theorem Tl.inv_r {f : Nat → Nat} {rows : List (List Nat)} (T : Tl p f rows) {i : Nat} (hi : i < p * p) : f (inv f rows i) = i := by
  have h := (T.c.home (ord rows)).mpr (Nat.dvd_refl _) i hi
  have hpos := T.c.ord_pos
  have e : pw f (ord rows) i = f (pw f (ord rows - 1) i) := by
    conv => lhs; rw [show ord rows = (ord rows - 1) + 1 by omega]
    rfl
  rw [e] at h
  exact h
theorem Tl.inv_pm {f : Nat → Nat} {rows : List (List Nat)} (T : Tl p f rows) : Pm (p * p) (inv f rows) := pw_pm T.hf _
theorem Tl.undI {f : Nat → Nat} {rows : List (List Nat)} (T : Tl p f rows) {v : D} (hv : Hd p f v) : o_undone_deal [.int p, v] = retM (tb (p * p) (inv f rows)) := T.und hv
theorem eqU_bl2 (ne a b : Bool) : dEqU ne (.bl a) (.bl b) = retM (.bl ((a == b) != ne)) := by
  unfold dEqU dEqR
  rw [dOr_ret (a := .bl ((a == b) != ne))]
  cases a <;> cases b <;> cases ne <;> rfl
theorem eq_same (ne : Bool) {N : Nat} {f g : Nat → Nat} (h : ∀ i, i < N → f i = g i) : dEqU ne (.lst (tb N f)) (.lst (tb N g)) = retM (.bl (!ne)) := by
  rw [tb_congr h, tb_eq, eq_ints, decide_eq_true rfl]
  cases ne <;> rfl
theorem two_repr {N : Nat} {f g : Nat → Nat} (hN : N ≤ 121) (hf : Pm N f) (hg : Pm N g) : ∃ t, cReprU [.lst [.lst (tb N f), .lst (tb N g)]] = retM (.str t) :=
  sh_repr (b := 100000) ((sh_lst (n := 3) (b := 40000) (ds := [.lst (tb N f), .lst (tb N g)]) fun d hd => by
    simp only [List.mem_cons, List.not_mem_nil, or_false] at hd
    rcases hd with rfl | rfl
    · exact sh_tb 2 hN fun i hi => by have := hf.lt i hi; omega
    · exact sh_tb 2 hN fun i hi => by have := hg.lt i hi; omega).mono (by show (40000 + 2) * 2 + 4 ≤ 100000; decide)) (by decide)
theorem tab_repr {N : Nat} {f : Nat → Nat} (hN : N ≤ 121) (hf : Pm N f) : ∃ t, cReprU [.lst (tb N f)] = retM (.str t) := repr_tb hN fun i hi => by have := hf.lt i hi; omega
/-! ### how long the rounds are, sorted -/
def lensI (rows : List (List Nat)) : List Int := (lens rows).map fun (i : Nat) => (i : Int)
def sortD (rows : List (List Nat)) : List D := (sortI (lensI rows)).map .int
theorem sort_rows (rows : List (List Nat)) : cSorted [.lst (nl (lens rows))] = retM (.lst (sortD rows)) := by
  have h := sorted_lst (lensI rows)
  have e : (lensI rows).map D.int = nl (lens rows) := by unfold lensI nl; rw [List.map_map]; rfl
  rw [e] at h
  exact h
theorem sortI_sorted (ns : List Int) : (sortI ns).Pairwise (· ≤ ·) := by
  have s : (sortI ns).Pairwise (fun a b => decide (a ≤ b) = true) := List.pairwise_mergeSort (fun a b c x y => by simp only [decide_eq_true_eq] at *; omega) (fun a b => by simp only [Bool.or_eq_true, decide_eq_true_eq]; omega) ns
  exact s.imp fun z => by simpa [runD, env0, mSeq, mIfS, mNot, mB, mIsC, mVar, isC, mRet, mC, mTV, mAnd, mOr, mBin, mFld, dEqF, flV, retM, DL.bindM, mNx, mCall, lenM, mCons, mNil, mTup, mIsT, isT, mSet, mAsg, tgTup, tgCons, tgN, tgNil, mCallO, lenO, runO, mRetO, mLst, mIf, mUn, dNegI, mIsT2, mNoP, mPart, oListC, mDrop, mNever] using z
theorem sort_eq (ne : Bool) (ra rb : List (List Nat)) (h : (lens ra).Perm (lens rb)) : dEqU ne (.lst (sortD ra)) (.lst (sortD rb)) = retM (.bl (!ne)) := by
  have e : sortI (lensI ra) = sortI (lensI rb) := by
    unfold lensI
    refine sortI_of ?_ ?_
    · exact (sortI_perm _).trans (h.map _)
    · exact sortI_sorted _
  unfold sortD
  rw [e, eq_ints, decide_eq_true rfl]
  cases ne <;> rfl
end Q
end

section
set_option Elab.async false
set_option linter.all false
set_option maxRecDepth 100000
set_option maxHeartbeats 4000000
set_option exponentiation.threshold 20000
/-! k47: the law on one deal behind another one. -/
namespace Q
open DL PySem PyProof.Rows Pa
variable {p : Nat}
noncomputable def bhI : Env' → Mo D := mCall cSorted (mCons (mLst (mLc (srcL (mLst (mCallO (lenO 2 o_cycles) (mCons (mVar 1) (mCons (mVar 12) mNil))))) [13] (tgN 13) mYes (mCall cLen (mCons (mVar 13) mNil)))) mNil)
noncomputable def bhR (k : Nat) : Env' → Mo D := mCall cSorted (mCons (mLst (mLc (srcL (mLst (mCallO (lenO 1 o__law_rounds) (mCons (mVar k) mNil)))) [13] (tgN 13) mYes (mCall cLen (mCons (mVar 13) mNil)))) mNil)
theorem bh_i {f : Nat → Nat} {rows : List (List Nat)} (T : Tl p f rows) (v0 v2 v3 v4 v5 v6 v7 v8 v9 v10 v11 v13 : SV) : bhI [v0, .val (.int p), v2, v3, v4, v5, v6, v7, v8, v9, v10, v11, .val (.lst (tb (p * p) f)), v13] = retM (.lst (sortD rows)) := by
  have h1 := cyctold T.hp T.hf T.cy (hd_lst p f)
  have h2 := lens_comp (rows := rows) (i := 13) (env := [v0, .val (.int p), v2, v3, v4, v5, v6, v7, v8, v9, v10, v11, .val (.lst (tb (p * p) f)), .un]) ⟨fun z => (by simp [runD, env0, mSeq, mIfS, mNot, mB, mIsC, mVar, isC, mRet, mC, mTV, mAnd, mOr, mBin, mFld, dEqF, flV, retM, DL.bindM, mNx, mCall, lenM, mCons, mNil, mTup, mIsT, isT, mSet, mAsg, tgTup, tgCons, tgN, tgNil, mCallO, lenO, runO, mRetO, mLst, mIf, mUn, dNegI, mIsT2, mNoP, mPart, oListC, mDrop, mNever] at z), fun x => rfl⟩
  have h3 := sort_rows rows
  have h5 : (rowsD rows).length ≤ 100000 := by rw [rowsD_len]; have := T.c.le; have := T.sq; omega
  unfold bhI
  generalize hel : (mCall cLen (mCons (mVar 13) mNil)) = el at *
  generalize tb (p * p) f = t at *
  generalize rowsD rows = r at *
  generalize nl (lens rows) = r2 at *
  generalize sortD rows = r3 at *
  funext q
  simp [runD, env0, mSeq, mIfS, mNot, mB, mIsC, mVar, isC, mRet, mC, mTV, mAnd, mOr, mBin, mFld, dEqF, flV, retM, DL.bindM, mNx, mCall, lenM, mCons, mNil, mTup, mIsT, isT, mSet, mAsg, tgTup, tgCons, tgN, tgNil, mCallO, lenO, runO, mRetO, mLst, mIf, mUn, dNegI, mIsT2, mNoP, mPart, oListC, mDrop, mNever, mLc, srcL, h1, h5, wipeE, h2, h3]
theorem bh_r3 {f : Nat → Nat} {rows : List (List Nat)} (T : Tl p f rows) (v0 v1 v2 v4 v5 v6 v7 v8 v9 v10 v11 v12 v13 : SV) : bhR 3 [v0, v1, v2, .val (.lst (tb (p * p) f)), v4, v5, v6, v7, v8, v9, v10, v11, v12, v13] = retM (.lst (sortD rows)) := by
  have h1 := T.lr
  have h2 := lens_comp (rows := rows) (i := 13) (env := [v0, v1, v2, .val (.lst (tb (p * p) f)), v4, v5, v6, v7, v8, v9, v10, v11, v12, .un]) ⟨fun z => (by simp [runD, env0, mSeq, mIfS, mNot, mB, mIsC, mVar, isC, mRet, mC, mTV, mAnd, mOr, mBin, mFld, dEqF, flV, retM, DL.bindM, mNx, mCall, lenM, mCons, mNil, mTup, mIsT, isT, mSet, mAsg, tgTup, tgCons, tgN, tgNil, mCallO, lenO, runO, mRetO, mLst, mIf, mUn, dNegI, mIsT2, mNoP, mPart, oListC, mDrop, mNever] at z), fun x => rfl⟩
  have h3 := sort_rows rows
  have h5 : (rowsD rows).length ≤ 100000 := by rw [rowsD_len]; have := T.c.le; have := T.sq; omega
  unfold bhR
  generalize hel : (mCall cLen (mCons (mVar 13) mNil)) = el at *
  generalize tb (p * p) f = t at *
  generalize rowsD rows = r at *
  generalize nl (lens rows) = r2 at *
  generalize sortD rows = r3 at *
  funext q
  simp [runD, env0, mSeq, mIfS, mNot, mB, mIsC, mVar, isC, mRet, mC, mTV, mAnd, mOr, mBin, mFld, dEqF, flV, retM, DL.bindM, mNx, mCall, lenM, mCons, mNil, mTup, mIsT, isT, mSet, mAsg, tgTup, tgCons, tgN, tgNil, mCallO, lenO, runO, mRetO, mLst, mIf, mUn, dNegI, mIsT2, mNoP, mPart, oListC, mDrop, mNever, mLc, srcL, h1, h5, wipeE, h2, h3]
theorem bh_r4 {f : Nat → Nat} {rows : List (List Nat)} (T : Tl p f rows) (v0 v1 v2 v3 v5 v6 v7 v8 v9 v10 v11 v12 v13 : SV) : bhR 4 [v0, v1, v2, v3, .val (.lst (tb (p * p) f)), v5, v6, v7, v8, v9, v10, v11, v12, v13] = retM (.lst (sortD rows)) := by
  have h1 := T.lr
  have h2 := lens_comp (rows := rows) (i := 13) (env := [v0, v1, v2, v3, .val (.lst (tb (p * p) f)), v5, v6, v7, v8, v9, v10, v11, v12, .un]) ⟨fun z => (by simp [runD, env0, mSeq, mIfS, mNot, mB, mIsC, mVar, isC, mRet, mC, mTV, mAnd, mOr, mBin, mFld, dEqF, flV, retM, DL.bindM, mNx, mCall, lenM, mCons, mNil, mTup, mIsT, isT, mSet, mAsg, tgTup, tgCons, tgN, tgNil, mCallO, lenO, runO, mRetO, mLst, mIf, mUn, dNegI, mIsT2, mNoP, mPart, oListC, mDrop, mNever] at z), fun x => rfl⟩
  have h3 := sort_rows rows
  have h5 : (rowsD rows).length ≤ 100000 := by rw [rowsD_len]; have := T.c.le; have := T.sq; omega
  unfold bhR
  generalize hel : (mCall cLen (mCons (mVar 13) mNil)) = el at *
  generalize tb (p * p) f = t at *
  generalize rowsD rows = r at *
  generalize nl (lens rows) = r2 at *
  generalize sortD rows = r3 at *
  funext q
  simp [runD, env0, mSeq, mIfS, mNot, mB, mIsC, mVar, isC, mRet, mC, mTV, mAnd, mOr, mBin, mFld, dEqF, flV, retM, DL.bindM, mNx, mCall, lenM, mCons, mNil, mTup, mIsT, isT, mSet, mAsg, tgTup, tgCons, tgN, tgNil, mCallO, lenO, runO, mRetO, mLst, mIf, mUn, dNegI, mIsT2, mNoP, mPart, oListC, mDrop, mNever, mLc, srcL, h1, h5, wipeE, h2, h3]
noncomputable def bhS : Env' → Mo (List D) := mLc (srcL (mLst (mNew (mCons (mVar 9) (mCons (mLst (mCallO (lenO 3 o_behind_deal) (mCons (mVar 1) (mCons (mVar 3) (mCons (mVar 2) mNil))))) mNil))))) [12] (tgN 12) mYes bhI
theorem bh_s {f g L k : Nat → Nat} {rl rk : List (List Nat)} (hf : Pm (p * p) f) (hg : Pm (p * p) g) (TL : Tl p L rl) (TK : Tl p k rk) (hk : ∀ i, i < p * p → k i = g (f i)) (v0 v4 v5 v6 v7 v8 v10 v11 v12 v13 : SV) : bhS [v0, .val (.int p), .val (.lst (tb (p * p) f)), .val (.lst (tb (p * p) g)), v4, v5, v6, v7, v8, .val (.lst (tb (p * p) L)), v10, v11, v12, v13] = retM [.lst (sortD rl), .lst (sortD rk)] := by
  have h1 := behind_told TL.hp hg hf (hd_lst p g) (hd_lst p f)
  rw [tb_congr (f := fun i => g (f i)) (g := k) fun i hi => (hk i hi).symm] at h1
  have h2 := bh_i TL v0 (.val (.lst (tb (p * p) f))) (.val (.lst (tb (p * p) g))) v4 v5 v6 v7 v8 (.val (.lst (tb (p * p) L))) v10 v11 v13
  have h3 := bh_i TK v0 (.val (.lst (tb (p * p) f))) (.val (.lst (tb (p * p) g))) v4 v5 v6 v7 v8 (.val (.lst (tb (p * p) L))) v10 v11 v13
  unfold bhS
  generalize bhI = bi at *
  generalize tb (p * p) f = t1 at *
  generalize tb (p * p) g = t2 at *
  generalize tb (p * p) L = t3 at *
  generalize tb (p * p) k = t4 at *
  generalize sortD rl = r1 at *
  generalize sortD rk = r2 at *
  funext q
  simp [runD, env0, mSeq, mIfS, mNot, mB, mIsC, mVar, isC, mRet, mC, mTV, mAnd, mOr, mBin, mFld, dEqF, flV, retM, DL.bindM, mNx, mCall, lenM, mCons, mNil, mTup, mIsT, isT, mSet, mAsg, tgTup, tgCons, tgN, tgNil, mCallO, lenO, runO, mRetO, mLst, mIf, mUn, dNegI, mIsT2, mNoP, mPart, oListC, mDrop, mNever, mLc, srcL, mNew, h1, wipeE, compM, mYes, h2, h3]
/-! ### the tests -/
noncomputable def bhC1 : Env' → Mo Bool := mBorT 6 (mB (mBin (dEqU true) (mCall cReprU (mCons (mLst (mNew (mCons (mVar 6) (mCons (mCall (pickM 3 [2, 1, 0] d_behind_deal) (mCons (mCall cTup (mCons (mVar 3) mNil)) (mCons (mVar 2) (mCons (mVar 1) mNil)))) mNil)))) mNil)) (mCall cReprU (mCons (mLst (mNew (mCons (mVar 4) (mCons (mVar 4) mNil)))) mNil))))
noncomputable def bhC2 : Env' → Mo Bool := mB (mBin (dEqU true) (mCall cReprU (mCons (mLst (mCallO (lenO 3 o_behind_deal) (mCons (mVar 1) (mCons (mCall cTup (mCons (mVar 2) mNil)) (mCons (mLst (mCallO oListC (mCons (mVar 3) mNil))) mNil))))) mNil)) (mCall cReprU (mCons (mVar 4) mNil)))
noncomputable def bhC3 : Env' → Mo Bool := mB (mBin (dEqU true) (mCall (lenM 2 d_is_even_deal) (mCons (mVar 1) (mCons (mLst (mCallO oListC (mCons (mVar 4) mNil))) mNil))) (mBin (dEqU false) (mCall (lenM 1 d__law_is_even) (mCons (mVar 2) mNil)) (mCall (lenM 1 d__law_is_even) (mCons (mVar 3) mNil))))
noncomputable def bhP : MS := mPar 7 8 (mCons (mLst (mCallO (lenO 2 o_undone_deal) (mCons (mVar 1) (mCons (mLst (mCallO oListC (mCons (mVar 4) mNil))) mNil)))) (mCons (mLst (mCallO (lenO 3 o_behind_deal) (mCons (mVar 1) (mCons (mLst (mCallO (lenO 2 o_undone_deal) (mCons (mVar 1) (mCons (mVar 3) mNil)))) (mCons (mLst (mCallO (lenO 2 o_undone_deal) (mCons (mVar 1) (mCons (mVar 2) mNil)))) mNil))))) mNil))
noncomputable def bhC4 : Env' → Mo Bool := mOr (mB (mBin (dEqU true) (mVar 7) (mVar 8))) (mB (mBin (dEqU true) (mLst (mCallO (lenO 3 o_behind_deal) (mCons (mVar 1) (mCons (mVar 7) (mCons (mLst (mCallO oListC (mCons (mVar 4) mNil))) mNil))))) (mLst (oRg1 (mCall cLen (mCons (mVar 2) mNil))))))
noncomputable def bhL : Env' → Mo D := mLst (mCallO (lenO 3 o_behind_deal) (mCons (mVar 1) (mCons (mLst (mCallO oListC (mCons (mVar 4) mNil))) (mCons (mLst (mCallO (lenO 2 o_undone_deal) (mCons (mVar 1) (mCons (mVar 2) mNil)))) mNil))))
noncomputable def bhE : Env' → Mo D := mTV (mAnd (mB (mBin (dEqU false) (mBin atD (mVarB 10) (mC (.int 0))) (bhR 3))) (mB (mTV (mAnd (mB (mBin (dEqU false) (mCall (lenM 2 d_order) (mCons (mVar 1) (mCons (mVar 9) mNil))) (mCall (lenM 2 d_order) (mCons (mVar 1) (mCons (mVar 3) mNil))))) (mB (mTV (mAnd (mB (mBin (dEqU false) (mBin atD (mVarB 10) (mC (.int 1))) (bhR 4))) (mB (mBin (dEqU false) (mCall cReprU (mCons (mLst (mNew (mCons (mVar 2) (mCons (mVar 3) mNil)))) mNil)) (mVar 5))))))))))
structure Bh (p : Nat) (f g H : Nat → Nat) (rf rg rh : List (List Nat)) : Prop where
  F : Tl p f rf
  G : Tl p g rg
  T : Tl p H rh
  e : ∀ i, i < p * p → H i = f (g i)
variable {f g H : Nat → Nat} {rf rg rh : List (List Nat)}
theorem Bh.tbH (b : Bh p f g H rf rg rh) : (tb (p * p) fun i => f (g i)) = tb (p * p) H := tb_congr fun i hi => (b.e i hi).symm
theorem Bh.behind (b : Bh p f g H rf rg rh) {v w : D} (hv : Hd p f v) (hw : Hd p g w) : o_behind_deal [.int p, v, w] = retM (tb (p * p) H) := by
  rw [behind_told b.F.hp b.F.hf b.G.hf hv hw, b.tbH]
theorem bh_c1 (b : Bh p f g H rf rg rh) (v0 v5 v7 v8 v9 v10 v11 v12 v13 : SV) : bhC1 [v0, .val (.int p), .val (.lst (tb (p * p) f)), .val (.lst (tb (p * p) g)), .val (.lst (tb (p * p) H)), v5, .own (tb (p * p) H), v7, v8, v9, v10, v11, v12, v13] = retM false := by
  have h1 : d_behind_deal [.int p, .lst (tb (p * p) f), .tup (tb (p * p) g)] = retM (.lst (tb (p * p) H)) := runD_of (b.behind (hd_lst p f) (hd_tup p g))
  obtain ⟨t, h2⟩ := two_repr b.T.sq b.T.hf b.T.hf
  have h3 := eqU_str true t
  unfold bhC1
  generalize dEqU = eqf at *
  generalize cReprU = rp at *
  generalize tb (p * p) f = t1 at *
  generalize tb (p * p) g = t2 at *
  generalize tb (p * p) H = t3 at *
  funext q
  simp [runD, env0, mSeq, mIfS, mNot, mB, mIsC, mVar, isC, mRet, mC, mTV, mAnd, mOr, mBin, mFld, dEqF, flV, retM, DL.bindM, mNx, mCall, lenM, mCons, mNil, mTup, mIsT, isT, mSet, mAsg, tgTup, tgCons, tgN, tgNil, mCallO, lenO, runO, mRetO, mLst, mIf, mUn, dNegI, mIsT2, mNoP, mPart, oListC, mDrop, mNever, mBorT, mNew, pickM, pk3, cTup, h1, h2, h3]
theorem bh_c2 (b : Bh p f g H rf rg rh) (v0 v5 v6 v7 v8 v9 v10 v11 v12 v13 : SV) : bhC2 [v0, .val (.int p), .val (.lst (tb (p * p) f)), .val (.lst (tb (p * p) g)), .val (.lst (tb (p * p) H)), v5, v6, v7, v8, v9, v10, v11, v12, v13] = retM false := by
  have h1 := b.behind (hd_tup p f) (hd_lst p g)
  obtain ⟨t, h2⟩ := tab_repr b.T.sq b.T.hf
  have h3 := eqU_str true t
  unfold bhC2
  generalize dEqU = eqf at *
  generalize cReprU = rp at *
  generalize tb (p * p) f = t1 at *
  generalize tb (p * p) g = t2 at *
  generalize tb (p * p) H = t3 at *
  funext q
  simp [runD, env0, mSeq, mIfS, mNot, mB, mIsC, mVar, isC, mRet, mC, mTV, mAnd, mOr, mBin, mFld, dEqF, flV, retM, DL.bindM, mNx, mCall, lenM, mCons, mNil, mTup, mIsT, isT, mSet, mAsg, tgTup, tgCons, tgN, tgNil, mCallO, lenO, runO, mRetO, mLst, mIf, mUn, dNegI, mIsT2, mNoP, mPart, oListC, mDrop, mNever, cTup, h1, h2, h3]
theorem bh_c3 (b : Bh p f g H rf rg rh) (v0 v5 v6 v7 v8 v9 v10 v11 v12 v13 : SV) : bhC3 [v0, .val (.int p), .val (.lst (tb (p * p) f)), .val (.lst (tb (p * p) g)), .val (.lst (tb (p * p) H)), v5, v6, v7, v8, v9, v10, v11, v12, v13] = retM false := by
  have hsq := b.T.sq
  have h1 := evendeal_eq b.T.hp b.T.hf (hd_lst p H)
  have h2 := law_even_eq (N := p * p) (by omega) f
  have h3 := law_even_eq (N := p * p) (by omega) g
  have hs : sg (p * p) H = (sg (p * p) g ^^ sg (p * p) f) := by rw [sg_congr b.e, sg_comp b.F.hf b.G.hf]
  rw [hs] at h1
  have h4 := eqU_bl2 false (!(sg (p * p) f)) (!(sg (p * p) g))
  have e5 : (!(sg (p * p) g ^^ sg (p * p) f)) = (((!(sg (p * p) f)) == (!(sg (p * p) g))) != false) := by
    cases sg (p * p) f <;> cases sg (p * p) g <;> rfl
  rw [e5] at h1
  have h5 := eqU_bl true (((!(sg (p * p) f)) == (!(sg (p * p) g))) != false)
  unfold bhC3
  generalize (((!(sg (p * p) f)) == (!(sg (p * p) g))) != false) = x at *
  generalize (!(sg (p * p) f)) = y at *
  generalize (!(sg (p * p) g)) = z at *
  generalize dEqU = eqf at *
  generalize tb (p * p) f = t1 at *
  generalize tb (p * p) g = t2 at *
  generalize tb (p * p) H = t3 at *
  funext q
  simp [runD, env0, mSeq, mIfS, mNot, mB, mIsC, mVar, isC, mRet, mC, mTV, mAnd, mOr, mBin, mFld, dEqF, flV, retM, DL.bindM, mNx, mCall, lenM, mCons, mNil, mTup, mIsT, isT, mSet, mAsg, tgTup, tgCons, tgN, tgNil, mCallO, lenO, runO, mRetO, mLst, mIf, mUn, dNegI, mIsT2, mNoP, mPart, oListC, mDrop, mNever, h1, h2, h3, h4, h5]
def farF (f g : Nat → Nat) (rf rg : List (List Nat)) (i : Nat) : Nat := inv g rg (inv f rf i)
theorem bh_p (b : Bh p f g H rf rg rh) (v0 v5 v6 v7 v8 v9 v10 v11 v12 v13 : SV) : bhP [v0, .val (.int p), .val (.lst (tb (p * p) f)), .val (.lst (tb (p * p) g)), .val (.lst (tb (p * p) H)), v5, v6, v7, v8, v9, v10, v11, v12, v13] = retM (.nx, [v0, .val (.int p), .val (.lst (tb (p * p) f)), .val (.lst (tb (p * p) g)), .val (.lst (tb (p * p) H)), v5, v6, .val (.lst (tb (p * p) (inv H rh))), .val (.lst (tb (p * p) (farF f g rf rg))), v9, v10, v11, v12, v13]) := by
  have h1 := b.T.undI (hd_lst p H)
  have h2 := b.F.undI (hd_lst p f)
  have h3 := b.G.undI (hd_lst p g)
  have h4 : o_behind_deal [.int p, .lst (tb (p * p) (inv g rg)), .lst (tb (p * p) (inv f rf))] = retM (tb (p * p) (farF f g rf rg)) := behind_told b.T.hp b.G.inv_pm b.F.inv_pm (hd_lst p _) (hd_lst p _)
  unfold bhP
  generalize tb (p * p) (farF f g rf rg) = t7 at *
  generalize tb (p * p) (inv H rh) = t4 at *
  generalize tb (p * p) (inv f rf) = t5 at *
  generalize tb (p * p) (inv g rg) = t6 at *
  generalize tb (p * p) f = t1 at *
  generalize tb (p * p) g = t2 at *
  generalize tb (p * p) H = t3 at *
  funext q
  simp [runD, env0, mSeq, mIfS, mNot, mB, mIsC, mVar, isC, mRet, mC, mTV, mAnd, mOr, mBin, mFld, dEqF, flV, retM, DL.bindM, mNx, mCall, lenM, mCons, mNil, mTup, mIsT, isT, mSet, mAsg, tgTup, tgCons, tgN, tgNil, mCallO, lenO, runO, mRetO, mLst, mIf, mUn, dNegI, mIsT2, mNoP, mPart, oListC, mDrop, mNever, mPar, h1, h2, h3, h4]
theorem bh_c4 (b : Bh p f g H rf rg rh) (v0 v3 v5 v6 v9 v10 v11 v12 v13 : SV) : bhC4 [v0, .val (.int p), .val (.lst (tb (p * p) f)), v3, .val (.lst (tb (p * p) H)), v5, v6, .val (.lst (tb (p * p) (inv H rh))), .val (.lst (tb (p * p) (farF f g rf rg))), v9, v10, v11, v12, v13] = retM false := by
  have hsq := b.T.sq
  have h1 : dEqU true (.lst (tb (p * p) (inv H rh))) (.lst (tb (p * p) (farF f g rf rg))) = retM (.bl false) := eq_same true fun i hi => by
    have hfi := b.F.inv_pm.lt i hi
    have hgi := b.G.inv_pm.lt _ hfi
    refine b.T.hf.inj _ _ (b.T.inv_pm.lt i hi) hgi ?_
    show H (inv H rh i) = H (inv g rg (inv f rf i))
    rw [b.T.inv_r hi, b.e _ hgi, b.G.inv_r hfi, b.F.inv_r hi]
  have h2 := behind_told b.T.hp b.T.inv_pm b.T.hf (hd_lst p (inv H rh)) (hd_lst p H)
  have e2 : (tb (p * p) fun i => inv H rh (H i)) = tb (p * p) fun i => i := tb_congr fun i hi => b.T.inv_l hi
  rw [e2] at h2
  have hlen : (tb (p * p) f).length = p * p := tb_len
  have h3 : oRg1 (mCall cLen (mCons (mVar 2) mNil)) [v0, .val (.int p), .val (.lst (tb (p * p) f)), v3, .val (.lst (tb (p * p) H)), v5, v6, .val (.lst (tb (p * p) (inv H rh))), .val (.lst (tb (p * p) (farF f g rf rg))), v9, v10, v11, v12, v13] = retM (tb (p * p) fun i => i) := by
    rw [rg1 (n := p * p) (by
      generalize tb (p * p) (farF f g rf rg) = t7 at *
      generalize tb (p * p) (inv H rh) = t4 at *
      generalize tb (p * p) H = t3 at *
      generalize tb (p * p) f = t at *
      funext q; simp [runD, env0, mSeq, mIfS, mNot, mB, mIsC, mVar, isC, mRet, mC, mTV, mAnd, mOr, mBin, mFld, dEqF, flV, retM, DL.bindM, mNx, mCall, lenM, mCons, mNil, mTup, mIsT, isT, mSet, mAsg, tgTup, tgCons, tgN, tgNil, mCallO, lenO, runO, mRetO, mLst, mIf, mUn, dNegI, mIsT2, mNoP, mPart, oListC, mDrop, mNever, cLen, hlen]) (by omega), ← tb_id]
  have h4 : dEqU true (.lst (tb (p * p) fun i => i)) (.lst (tb (p * p) fun i => i)) = retM (.bl false) := eq_same true fun i _ => rfl
  unfold bhC4
  generalize oRg1 (mCall cLen (mCons (mVar 2) mNil)) = rg at *
  generalize dEqU = eqf at *
  generalize tb (p * p) (farF f g rf _) = t7 at *
  generalize tb (p * p) (inv H rh) = t4 at *
  generalize (tb (p * p) fun i => i) = t0 at *
  generalize tb (p * p) f = t1 at *
  generalize tb (p * p) H = t3 at *
  funext q
  simp [runD, env0, mSeq, mIfS, mNot, mB, mIsC, mVar, isC, mRet, mC, mTV, mAnd, mOr, mBin, mFld, dEqF, flV, retM, DL.bindM, mNx, mCall, lenM, mCons, mNil, mTup, mIsT, isT, mSet, mAsg, tgTup, tgCons, tgN, tgNil, mCallO, lenO, runO, mRetO, mLst, mIf, mUn, dNegI, mIsT2, mNoP, mPart, oListC, mDrop, mNever, h1, h2, h3, h4]
def ledF (f H : Nat → Nat) (rf : List (List Nat)) (i : Nat) : Nat := H (inv f rf i)
theorem bh_l (b : Bh p f g H rf rg rh) (v0 v3 v5 v6 v7 v8 v9 v10 v11 v12 v13 : SV) : bhL [v0, .val (.int p), .val (.lst (tb (p * p) f)), v3, .val (.lst (tb (p * p) H)), v5, v6, v7, v8, v9, v10, v11, v12, v13] = retM (.lst (tb (p * p) (ledF f H rf))) := by
  have h2 := b.F.undI (hd_lst p f)
  have h4 : o_behind_deal [.int p, .lst (tb (p * p) H), .lst (tb (p * p) (inv f rf))] = retM (tb (p * p) (ledF f H rf)) := behind_told b.T.hp b.T.hf b.F.inv_pm (hd_lst p _) (hd_lst p _)
  unfold bhL
  generalize tb (p * p) (ledF f H rf) = t7 at *
  generalize tb (p * p) (inv f rf) = t5 at *
  generalize tb (p * p) f = t1 at *
  generalize tb (p * p) H = t3 at *
  funext q
  simp [runD, env0, mSeq, mIfS, mNot, mB, mIsC, mVar, isC, mRet, mC, mTV, mAnd, mOr, mBin, mFld, dEqF, flV, retM, DL.bindM, mNx, mCall, lenM, mCons, mNil, mTup, mIsT, isT, mSet, mAsg, tgTup, tgCons, tgN, tgNil, mCallO, lenO, runO, mRetO, mLst, mIf, mUn, dNegI, mIsT2, mNoP, mPart, oListC, mDrop, mNever, h2, h4]
theorem bh_e (b : Bh p f g H rf rg rh) {L k : Nat → Nat} {rl rk : List (List Nat)} (TL : Tl p L rl) (TK : Tl p k rk) (hL : ∀ i, i < p * p → L (f i) = f (g i)) (hk : ∀ i, i < p * p → k i = g (f i)) {sh : Str} (hs : cReprU [.lst [.lst (tb (p * p) f), .lst (tb (p * p) g)]] = retM (.str sh)) (v0 v6 v7 v8 v11 v12 v13 : SV) : bhE [v0, .val (.int p), .val (.lst (tb (p * p) f)), .val (.lst (tb (p * p) g)), .val (.lst (tb (p * p) H)), .val (.str sh), v6, v7, v8, .val (.lst (tb (p * p) L)), .own [.lst (sortD rl), .lst (sortD rk)], v11, v12, v13] = retM (.bl true) := by
  have h1 := bh_r3 b.G v0 (.val (.int p)) (.val (.lst (tb (p * p) f))) (.val (.lst (tb (p * p) H))) (.val (.str sh)) v6 v7 v8 (.val (.lst (tb (p * p) L))) (.own [.lst (sortD rl), .lst (sortD rk)]) v11 v12 v13
  have h2 := bh_r4 b.T v0 (.val (.int p)) (.val (.lst (tb (p * p) f))) (.val (.lst (tb (p * p) g))) (.val (.str sh)) v6 v7 v8 (.val (.lst (tb (p * p) L))) (.own [.lst (sortD rl), .lst (sortD rk)]) v11 v12 v13
  have h3 := ordertold TL.hp TL.hf TL.cy TL.c (hd_lst p L)
  have h4 := ordertold b.G.hp b.G.hf b.G.cy b.G.c (hd_lst p g)
  have p1 := lens_perm b.G.c TL.c b.G.hf b.F.hf (h := f) fun i hi => (hL i hi).symm
  have o1 := ord_led b.G.c TL.c b.G.hf b.F.hf (h := f) fun i hi => (hL i hi).symm
  have p2 := lens_perm TK.c b.T.c TK.hf b.F.hf (h := f) fun i hi => by rw [hk i hi, b.e _ (b.F.hf.lt i hi)]
  have e1 := sort_eq false rl rg p1.symm
  have e2 := sort_eq false rk rh p2
  rw [← o1] at h3
  have e3 := eqU_int false (ord rg : Nat) (ord rg : Nat)
  rw [decide_eq_true rfl] at e3
  have e4 := eqU_str false sh
  have a0 := al0 (a := .lst (sortD rl)) (l := [.lst (sortD rk)])
  have a1 := al1 (a := .lst (sortD rl)) (b := .lst (sortD rk)) (l := [])
  unfold bhE
  generalize bhR = br at *
  generalize dEqU = eqf at *
  generalize cReprU = rp at *
  generalize tb (p * p) L = t4 at *
  generalize tb (p * p) f = t1 at *
  generalize tb (p * p) g = t2 at *
  generalize tb (p * p) H = t3 at *
  generalize sortD rl = s1 at *
  generalize sortD rk = s2 at *
  generalize sortD rg = s3 at *
  generalize sortD rh = s4 at *
  funext q
  simp [runD, env0, mSeq, mIfS, mNot, mB, mIsC, mVar, isC, mRet, mC, mTV, mAnd, mOr, mBin, mFld, dEqF, flV, retM, DL.bindM, mNx, mCall, lenM, mCons, mNil, mTup, mIsT, isT, mSet, mAsg, tgTup, tgCons, tgN, tgNil, mCallO, lenO, runO, mRetO, mLst, mIf, mUn, dNegI, mIsT2, mNoP, mPart, oListC, mDrop, mNever, mVarB, a0, a1, h1, h2, h3, h4, e1, e2, e3, mNew, hs, e4]
end Q
end

section
set_option Elab.async false
set_option linter.all false
set_option maxRecDepth 100000
set_option maxHeartbeats 4000000
set_option exponentiation.threshold 20000
/-! k47: the law. -/
namespace Q
open DL PySem PyProof.Rows Pa
variable {p : Nat}
noncomputable def bhD : Env' → Mo (List D) := mLc (srcL (mVar 3)) [11] (tgN 11) mYes (mBin atD (mVar 2) (mVar 11))
theorem bh_d {f g : Nat → Nat} (hN : p * p ≤ 121) (hg : Pm (p * p) g) (v0 v1 v4 v5 v6 v7 v8 v9 v10 v11 v12 v13 : SV) : bhD [v0, v1, .val (.lst (tb (p * p) f)), .val (.lst (tb (p * p) g)), v4, v5, v6, v7, v8, v9, v10, v11, v12, v13] = retM (tb (p * p) fun i => f (g i)) := by
  have hc : compM (tgN 11) mYes (mBin atD (mVar 2) (mVar 11)) [v0, v1, .val (.lst (tb (p * p) f)), .val (.lst (tb (p * p) g)), v4, v5, v6, v7, v8, v9, v10, .un, v12, v13] (tb (p * p) g) = retM (tb (p * p) fun i => f (g i)) := by
    conv => lhs; arg 5; unfold tb
    conv => rhs; unfold tb
    refine comp_map fun i hi => ?_
    have hi' := List.mem_range.mp hi
    have hat := at_tb (f := f) (hg.lt i hi')
    generalize tb (p * p) f = t at *
    generalize tb (p * p) g = t2 at *
    funext q
    simp [runD, env0, mSeq, mIfS, mNot, mB, mIsC, mVar, isC, mRet, mC, mTV, mAnd, mOr, mBin, mFld, dEqF, flV, retM, DL.bindM, mNx, mCall, lenM, mCons, mNil, mTup, mIsT, isT, mSet, mAsg, tgTup, tgCons, tgN, tgNil, mCallO, lenO, runO, mRetO, mLst, mIf, mUn, dNegI, mIsT2, mNoP, mPart, oListC, mDrop, mNever, hat]
  have hl : (tb (p * p) g).length ≤ 100000 := by rw [tb_len]; omega
  unfold bhD
  generalize mBin atD (mVar 2) (mVar 11) = el at *
  generalize (tb (p * p) fun i => f (g i)) = t3 at *
  generalize tb (p * p) f = t1 at *
  generalize tb (p * p) g = t2 at *
  funext q
  simp [runD, env0, mSeq, mIfS, mNot, mB, mIsC, mVar, isC, mRet, mC, mTV, mAnd, mOr, mBin, mFld, dEqF, flV, retM, DL.bindM, mNx, mCall, lenM, mCons, mNil, mTup, mIsT, isT, mSet, mAsg, tgTup, tgCons, tgN, tgNil, mCallO, lenO, runO, mRetO, mLst, mIf, mUn, dNegI, mIsT2, mNoP, mPart, oListC, mDrop, mNever, mLc, srcL, hl, wipeE, hc]
theorem law_behind {f g : Nat → Nat} {rf rg : List (List Nat)} (F : Tl p f rf) (G : Tl p g rg) : d__law_behind_right [.pot, .int p, .lst (tb (p * p) f), .lst (tb (p * p) g)] = retM (.bl true) := by
  have hp := F.hp
  obtain ⟨rh, T⟩ := tl_of hp (F.hf.comp G.hf)
  have b : Bh p f g (fun i => f (g i)) rf rg rh := ⟨F, G, T, fun _ _ => rfl⟩
  obtain ⟨rl, TL⟩ := tl_of (f := ledF f (fun i => f (g i)) rf) hp (T.hf.comp F.inv_pm)
  obtain ⟨rk, TK⟩ := tl_of (f := fun i => g (f i)) hp (G.hf.comp F.hf)
  have hL : ∀ i, i < p * p → ledF f (fun i => f (g i)) rf (f i) = f (g i) := fun i hi => by
    show f (g (inv f rf (f i))) = f (g i)
    rw [F.inv_l hi]
  obtain ⟨sh, hs⟩ := two_repr F.sq F.hf G.hf
  have h0 := bh_d (f := f) F.sq G.hf (.val .pot) (.val (.int p)) .un .un .un .un .un .un .un .un .un .un
  have h1 := b.behind (hd_lst p f) (hd_lst p g)
  have c1 := bh_c1 b (.val .pot) (.val (.str sh)) .un .un .un .un .un .un .un
  have c2 := bh_c2 b (.val .pot) (.val (.str sh)) (.own []) .un .un .un .un .un .un .un
  have c3 := bh_c3 b (.val .pot) (.val (.str sh)) (.own []) .un .un .un .un .un .un .un
  have cp := bh_p b (.val .pot) (.val (.str sh)) (.own []) .un .un .un .un .un .un .un
  have c4 := bh_c4 b (.val .pot) (.val (.lst (tb (p * p) g))) (.val (.str sh)) (.own []) .un .un .un .un .un
  have cl := bh_l b (.val .pot) (.val (.lst (tb (p * p) g))) (.val (.str sh)) (.own []) (.val (.lst (tb (p * p) (inv (fun i => f (g i)) rh)))) (.val (.lst (tb (p * p) (farF f g rf rg)))) .un .un .un .un .un
  have cs := bh_s F.hf G.hf TL TK (fun _ _ => rfl) (.val .pot) (.val (.lst (tb (p * p) fun i => f (g i)))) (.val (.str sh)) (.own []) (.val (.lst (tb (p * p) (inv (fun i => f (g i)) rh)))) (.val (.lst (tb (p * p) (farF f g rf rg)))) .un .un .un .un
  have ce := bh_e b TL TK hL (fun _ _ => rfl) hs (.val .pot) (.own []) (.val (.lst (tb (p * p) (inv (fun i => f (g i)) rh)))) (.val (.lst (tb (p * p) (farF f g rf rg)))) .un .un .un
  have hm : m__law_behind_right = mSeq (mSetO 4 bhD) (mSeq (mSet 5 (mCall cReprU (mCons (mLst (mNew (mCons (mVar 2) (mCons (mVar 3) mNil)))) mNil))) (mSeq (mSetO 6 (mCallO (lenO 3 o_behind_deal) (mCons (mVar 1) (mCons (mVar 2) (mCons (mVar 3) mNil))))) (mFrz 4 (mSeq (mIfS bhC1 (mRet (mC (.bl false))) mNx) (mSeq (mClr 6) (mFrz 4 (mSeq (mIfS bhC2 (mRet (mC (.bl false))) mNx) (mFrz 4 (mSeq (mIfS bhC3 (mRet (mC (.bl false))) mNx) (mFrz 4 (mSeq bhP (mFrz 4 (mSeq (mIfS bhC4 (mRet (mC (.bl false))) mNx) (mFrz 4 (mSeq (mSet 9 bhL) (mSeq (mSetO 10 bhS) (mFrz 4 (mRet bhE)))))))))))))))))) := rfl
  generalize bhD = xd at *
  generalize bhC1 = x1 at *
  generalize bhC2 = x2 at *
  generalize bhC3 = x3 at *
  generalize bhC4 = x4 at *
  generalize bhP = xp at *
  generalize bhL = xl at *
  generalize bhS = xs at *
  generalize bhE = xe at *
  generalize cReprU = rp at *
  generalize tb (p * p) (ledF f (fun i => f (g i)) rf) = t7 at *
  generalize tb (p * p) (inv (fun i => f (g i)) rh) = t5 at *
  generalize tb (p * p) (farF f g rf rg) = t6 at *
  generalize (tb (p * p) fun i => f (g i)) = t3 at *
  generalize tb (p * p) f = t1 at *
  generalize tb (p * p) g = t2 at *
  generalize sortD rl = s1 at *
  generalize sortD rk = s2 at *
  funext q
  simp [runD, env0, mSeq, mIfS, mNot, mB, mIsC, mVar, isC, mRet, mC, mTV, mAnd, mOr, mBin, mFld, dEqF, flV, retM, DL.bindM, mNx, mCall, lenM, mCons, mNil, mTup, mIsT, isT, mSet, mAsg, tgTup, tgCons, tgN, tgNil, mCallO, lenO, runO, mRetO, mLst, mIf, mUn, dNegI, mIsT2, mNoP, mPart, oListC, mDrop, mNever, d__law_behind_right, hm, mSetO, h0, mNew, hs, h1, mFrz, c1, mClr, c2, c3, cp, c4, cl, cs, ce]
noncomputable def lrP : Env' → Mo D := mCall (lenM 2 d__law_pick) (mCons (mVar 0) (mCons (mLst (mNew (mCons (mC (.int 3)) (mCons (mC (.int 3)) (mCons (mC (.int 5)) (mCons (mC (.int 7)) (mCons (mC (.int 11)) mNil))))))) mNil))
theorem lr_p {q : Pt} (hq : Good q) (v1 v2 v3 : SV) : ∃ (p : Nat) (q' : Pt), lrP [.val .pot, v1, v2, v3] q = some (.int (p : Nat), q') ∧ isP p ∧ Good q' := by
  obtain ⟨d, q', hd, e, g⟩ := law_pick hq (ds := [.int 3, .int 3, .int 5, .int 7, .int 11]) (by decide) (by decide)
  have e2 : lrP [.val .pot, v1, v2, v3] q = some (d, q') := by
    unfold lrP
    simp [runD, env0, mSeq, mIfS, mNot, mB, mIsC, mVar, isC, mRet, mC, mTV, mAnd, mOr, mBin, mFld, dEqF, flV, retM, DL.bindM, mNx, mCall, lenM, mCons, mNil, mTup, mIsT, isT, mSet, mAsg, tgTup, tgCons, tgN, tgNil, mCallO, lenO, runO, mRetO, mLst, mIf, mUn, dNegI, mIsT2, mNoP, mPart, oListC, mDrop, mNever, mNew, e]
  simp only [List.mem_cons, List.not_mem_nil, or_false] at hd
  rcases hd with rfl | rfl | rfl | rfl | rfl
  · exact ⟨3, q', e2, .inl rfl, g⟩
  · exact ⟨3, q', e2, .inl rfl, g⟩
  · exact ⟨5, q', e2, .inr (.inl rfl), g⟩
  · exact ⟨7, q', e2, .inr (.inr (.inl rfl)), g⟩
  · exact ⟨11, q', e2, .inr (.inr (.inr rfl)), g⟩
theorem hright {q : Pt} (hq : Good q) : ∃ q', d__law_right [.pot] q = some (.bl true, q') := by
  obtain ⟨p, q1, e1, hp, g1⟩ := lr_p hq .un .un .un
  obtain ⟨f, q2, e2, hf, g2⟩ := law_deal hp g1
  obtain ⟨g, q3, e3, hg, g3⟩ := law_deal hp g2
  obtain ⟨rf, F⟩ := tl_of hp hf
  obtain ⟨rg, G⟩ := tl_of hp hg
  have h1 := law_one F
  obtain ⟨q4, h2, g4⟩ := law_times F g3
  have h3 := law_behind F G
  obtain ⟨q5, h4, g5⟩ := law_squares hp g4
  refine ⟨q5, ?_⟩
  have hm : m__law_right = mSeq (mSet 1 lrP) (mSeq (mPar 2 3 (mCons (mLst (mCallO (lenO 2 o__law_deal) (mCons (mVar 0) (mCons (mVar 1) mNil)))) (mCons (mLst (mCallO (lenO 2 o__law_deal) (mCons (mVar 0) (mCons (mVar 1) mNil)))) mNil))) (mSeq (mIfS (mOr (mNot (mB (mCall (lenM 3 d__law_one_right) (mCons (mVar 0) (mCons (mVar 1) (mCons (mVar 2) mNil)))))) (mNot (mB (mCall (lenM 3 d__law_times_right) (mCons (mVar 0) (mCons (mVar 1) (mCons (mVar 2) mNil))))))) (mRet (mC (.bl false))) mNx) (mRet (mTV (mAnd (mB (mCall (lenM 4 d__law_behind_right) (mCons (mVar 0) (mCons (mVar 1) (mCons (mVar 2) (mCons (mVar 3) mNil)))))) (mB (mCall (lenM 2 d__law_squares_right) (mCons (mVar 0) (mCons (mVar 1) mNil))))))))) := rfl
  generalize lrP = xP at *
  generalize tb (p * p) f = t1 at *
  generalize tb (p * p) g = t2 at *
  simp [runD, env0, mSeq, mIfS, mNot, mB, mIsC, mVar, isC, mRet, mC, mTV, mAnd, mOr, mBin, mFld, dEqF, flV, retM, DL.bindM, mNx, mCall, lenM, mCons, mNil, mTup, mIsT, isT, mSet, mAsg, tgTup, tgCons, tgN, tgNil, mCallO, lenO, runO, mRetO, mLst, mIf, mUn, dNegI, mIsT2, mNoP, mPart, oListC, mDrop, mNever, d__law_right, hm, e1, mPar, e2, e3, h1, h2, h3, h4]
end Q
end

section
set_option Elab.async false
set_option linter.all false
set_option maxRecDepth 100000
set_option maxHeartbeats 4000000
/-! DL: the law's def called at the caller's frame, where no repr is under way. -/
namespace DL
open PySem PySem.Spec PyProof.Rows L2
/-- the promise of a law's def: at a list of ints, True -/
def spTrue (K : Fr') (n : Nat) : Sp := fun vs H Q _ => ∃ (t : Addr) (ns : List Int), vs = [.ref t] ∧ ns.length ≤ n ∧ Only H ∧ SqL K H t (ns.map V.int) ∧ ∀ H1, (∀ b o, H b = some o → H1 b = some o) → Q (.bl true) H1
theorem run_law {P : Program} {w : World} {K : Fr'} {mg mb : Str → Option Value} {n k : Nat} {f t : Addr} {fd : FuncData} {x : Str} {S : Shared} {us : List Value} {ns : List Int} (hK : K.In S.heap) (hG : S.heap.Ns mainGlobals mg) (hB : S.heap.Ns builtinsNs mb)
    (hbo : ∀ y : Str, y ≠ "__name__" → mb y = bootBuiltins y) (hno : S.heap.NoLimit) (hgen : S.gens = #[]) (ht : S.heap.get? t = some { cls := .type "list", data := .seq us.toArray }) (hus : IntsAre us ns) (hn : ns.length ≤ n) (hns : ns.length ≤ sizeLine) (room : Room k callerA)
    (F : ∀ base : Heap, K.In base → base.Ns mainGlobals mg → FnD true P w K mg base k f fd [x] (spTrue K n)) (hbd : ∀ (s : Shared) (u : Value), BindsTo s fd ⟨[u], []⟩ [(x, u)]) :
    codeAny (model P w) callerA (.call (.ref f) ⟨[.ref t], []⟩) (fun r s' => r = .ok (.ret (.bool true)) ∧ OldK S.heap s'.heap ∧ s'.os = S.os ∧ AllBare s'.gens) S := by
  have vals := vals_ints hus
  have ul := hus.length
  -- the abstract heap: the script alone, or nothing
  have main : ∀ G : Hp, Only G → SqL K G t (ns.map V.int) → HOk P w G S.heap → (∀ b, G b ≠ none → b = t ∧ K.lookup b = none) →
      codeAny (model P w) callerA (.call (.ref f) ⟨[.ref t], []⟩) (fun r s' => r = .ok (.ret (.bool true)) ∧ OldK S.heap s'.heap ∧ s'.os = S.os ∧ AllBare s'.gens) S := by
    intro G gO gS gok gT
    have keep : ∀ (b : Addr) (o : Obj), S.heap.get? b = some o → G b = none → (hidT S.heap G).get? b = some o := fun b o h z => hidT_get h z
    have free : ∀ (b : Addr) (o : Obj) (es : Array DictEntry) (ep : Nat), S.heap.get? b = some o → o.data = .dict es ep → G b = none := by
      intro b o es ep h hd
      rcases z : G b with _ | u
      · rfl
      · obtain ⟨e1, _⟩ := gT b (by rw [z]; exact fun y => nomatch y)
        rw [e1, ht] at h
        cases h
        exact nomatch (show Data.seq us.toArray 0 = Data.dict es ep from hd)
    have nsp : ∀ (b : Addr) (m : Str → Option Value), S.heap.Ns b m → (hidT S.heap G).Ns b m := by
      rintro b m ⟨o, es, ep, h, hd, r⟩
      exact ⟨o, es, ep, keep b o h (free b o es ep h hd), hd, r⟩
    have kb : K.In (hidT S.heap G) := by
      intro b o h
      refine keep b o (hK b o h) ?_
      rcases z : G b with _ | u
      · rfl
      · obtain ⟨_, e2⟩ := gT b (by rw [z]; exact fun y => nomatch y)
        rw [h] at e2
        cases e2
    have mod : Mod K mg (hidT S.heap G) := by
      obtain ⟨mc, n1, n2⟩ := hno
      exact ⟨kb, nsp _ _ hG, ⟨mb, nsp _ _ hB, hbo⟩, ⟨mc, nsp _ _ n1, n2⟩⟩
    have en : Env0 P w K mg (hidT S.heap G) callerA [] S G := by
      refine ⟨rfl, mod, fun b o h => of_hidT h, Nat.le_of_eq (hidT_size _ _), trivial, fun b hb => ?_, gok, .of_eq hgen⟩
      exact nomatch (show b ∈ ([] : List Addr) from hb)
    have go := (F _ kb (nsp _ _ hG)).run callerA [] S G ⟨[.ref t], []⟩ [.ref t] [.ref t] (fun v H1 => v = .bl true) E0 room (fun _ => rfl) en (hbd S (.ref t)) (.cons rfl .nil) ⟨t, ns, rfl, hn, gO, gS, fun _ _ => rfl⟩
    refine codeAny_mono go fun r s' h => ?_
    rcases r with e | fl
    · exact h.elim
    · cases fl with
      | next => exact h.elim
      | brk => exact h.elim
      | cont => exact h.elim
      | ret u =>
        obtain ⟨v, G1, hos, hbare, hun, gok1, rel, hv⟩ := h
        have hv' : v = .bl true := hv
        subst hv'
        have hu : u = Value.bool true := rel
        subst hu
        refine ⟨rfl, OldK.of_keep fun b o hb => ?_, hos, hbare⟩
        rcases z : G b with _ | w1
        · exact hun.keep b o hb z (fun y => nomatch (show b ∈ ([] : List Addr) from y)) (by simp)
        · rcases gO b with y | ⟨ob, xs, y⟩
          · rw [z] at y; cases y
          · have y1 := hun.frzs b ob _ y
            have q1 := (gok b _ y).1
            have q2 := (gok1 b _ y1).1
            rw [hb] at q1
            cases q1
            exact q2
  rcases hk : K.lookup t with _ | o
  · obtain ⟨G, hG1⟩ : ∃ G : Hp, ∀ b, G b = if b = t then some (HO.frz { cls := .type "list", data := .seq us.toArray } (.lst (ns.map V.int))) else none := ⟨_, fun _ => rfl⟩
    have sc : G t = some (.frz { cls := .type "list", data := .seq us.toArray } (.lst (ns.map V.int))) := by rw [hG1, if_pos rfl]
    refine main G (fun b => ?_) (.inl (.inr ⟨_, sc⟩)) (fun b u hb => ?_) fun b hb => ?_
    · rw [hG1]
      by_cases z : b = t
      · exact .inr ⟨_, _, if_pos z⟩
      · exact .inl (if_neg z)
    · rw [hG1] at hb
      by_cases z : b = t
      · subst z
        rw [if_pos rfl] at hb
        cases hb
        exact ⟨ht, by rw [List.length_map]; exact hns, us, 0, vals, ht⟩
      · rw [if_neg z] at hb
        cases hb
    · rw [hG1] at hb
      by_cases z : b = t
      · exact ⟨z, by rw [z]; exact hk⟩
      · exact absurd (if_neg z) hb
  · have h1 := hK t o hk
    rw [ht] at h1
    cases h1
    refine main (fun _ => none) (fun _ => .inl rfl) (.inr ⟨_, us.toArray, 0, hk, rfl, rfl, rfl, by rw [List.size_toArray, ul]; exact hns, by simpa using vals⟩) (fun b u hb => nomatch (show (none : Option HO) = some u from hb)) fun b hb => absurd rfl hb
/-- the end of a law's proof -/
theorem walk_law {l : PySem.W.OpenLaw} {n k : Nat} {q : Program} {loose : List Str} {XP : (Str → Option Value) → Heap → Prop} {YP : World → Heap → Prop} {d : DefRec} {x : Str} (hn : l.most = some n) (hn2 : n ≤ sizeLine) (hdf : d.params.defaults = []) (hr : Room k callerA)
    (F : ∀ (w : World) (mg : Str → Option Value) (f : Addr) (h : Heap), YP w h → h.Ns mainGlobals mg → mg d.name = some (.ref f) →
      ∃ (K : Fr') (fd : FuncData), K.In h ∧ (∀ (s : Shared) (u : Value), BindsTo s fd ⟨[u], []⟩ [(x, u)]) ∧ ∀ base : Heap, K.In base → base.Ns mainGlobals mg → FnD true l.prog w K mg base k f fd [x] (spTrue K n)) :
    PySem.W.WalkO q loose XP YP l.row.toRowW d [] (fun g vs => PySem.call g vs) := by
  refine Att.attach_call hn hdf ?_
  intro w s0 S mg mb f o pm cd doc t us ns G Y ho hd hcd hmg hobj hints hlen hg
  obtain ⟨K, fd, hK, hb, hF⟩ := F w mg f _ Y G.T.g hmg
  exact run_law hK G.T.g G.T.b G.T.builtins G.T.nolimit hg hobj hints hlen (Nat.le_trans hlen hn2) hr hF hb
section
variable {X : Cx} {g : Bool} {k : Nat} {f : Addr} {fd : FuncData} {ps : List Str} {sp : Sp} {x : Str} {p pos : Pos} {e : Expr} {es : List Expr} {ta : TA}
/-- f(e, ..) by a promise of any kind -/
theorem pe_callD (F : FnD g X.prog X.w X.K X.mg X.base k f fd ps sp) (hr : Room k X.A) (hgd : g = true → X.A.guards = some []) (hm : X.mg x = some (.ref f)) (hk : PySem.W.keepIn X.K (.ref f) = true) (hb : Binds X.K fd ps []) (ha : PA X (e :: es) ta) (hg : Gl X x := by rfl)
    (hdb : (x == ("__debug__" : Str)) = false := by decide) (he : starEach (e :: es) X.env = (false, eval e X.env) :: starEach es X.env := by rfl) (hpl : (backTo pos (starEach es X.env)).any (·.1) = false := by rfl) :
    PE X (.Call (.Name x p) (e :: es) [] pos) (tCl sp ta) := by
  refine ⟨fun pins s σ H Q I h => ?_⟩
  refine wpAny_Call_Name_kw (ld_glob I hg hm ?_ hdb)
  refine PySem.W.callWith_K (h₀ := X.base) I.ok.mod.kin hk (thn (ha.run pos pins s σ H _ I h) fun us s1 hq => ?_) he hpl
  obtain ⟨vs, H1, I1, r, q⟩ := hq
  refine ⟨I1.kIn, ?_⟩
  have hb1 := hb s1 us I1.kIn (by rw [List.append_nil, ← r.length]; exact F.len _ _ _ _ q)
  rw [List.append_nil] at hb1
  exact call_d (pv := us) (kw := []) F hr hgd hb1 I1 r q
end
end DL
end

section
set_option Elab.async false
set_option linter.all false
set_option maxRecDepth 100000
set_option maxHeartbeats 4000000
namespace Q
open PySem PySem.Spec PyProof.Rows L2 DL
def N_pot : List Str := ["script", "k", "cell"]
theorem S_pot : FnScope N_pot ["script", "k"] (defScope (top 49)) := ⟨rfl, rfl, rfl, by decide +kernel, rfl, by decide +kernel, by decide +kernel⟩
/-- a new pot, out of the script's k-th number -/
def spPot (K : Fr') : Sp := fun vs H Q _ => ∃ (t : Addr) (ns : List Int) (k : Nat), vs = [.ref t, .int k] ∧ k < 64 ∧ ns.length ≤ 63 ∧ SqL K H t (ns.map V.int) ∧
  ∀ (a b : Int) t', 0 ≤ a → 0 ≤ b → b < 2147483648 → H t' = none → Q (.ref t') (upd H t' (.lst [.int a, .int b]))
section
variable {P : Program} {w : World} {K : Fr'} {mg : Str → Option Value} {base : Heap}
theorem b_pot (Z : Zx P w K mg base) (cdv : Value) (A : Around) (outer : List Env) (s : Shared) (H : Hp) (E : XK) (vs : List V) (Q : VK) (h : spPot K vs H Q E) :
    ∃ t, PSs (cx0 P w K mg base N_pot "_law_pot" (defScope (top 49)) (He.ga K "_law_pot") cdv A outer s H E) (defBody (top 49)) t ∧ t { nx := fun _ H' => Q .non H', rt := Q } (L2.start N_pot vs) H := by
  refine ⟨_, pss_cons (ps_set (i := 2) S_pot.nd rfl (Or.inl rfl) (pe_ifExp (pt_cmpR op_lt (pe_var (i := 1) rfl (Or.inl rfl)) (pe_callB call_len_seq rfl Z.fr_len (by decide +kernel) (L2.pa_cons (pe_var (i := 0) rfl (Or.inl rfl)) L2.pa_nil)) rfl)
    (pe_callB call_abs rfl Z.fr_abs (by decide +kernel) (L2.pa_cons (pe_ix ix_seq (pe_var (i := 0) rfl (Or.inl rfl)) (pe_var (i := 1) rfl (Or.inl rfl)) (fun _ _ => rfl)) L2.pa_nil))
    (pe_op op_add (pe_op op_mulW pe_int (pe_var (i := 1) rfl (Or.inl rfl))) pe_int)) rfl (.inl rfl))
    (pss_one (ps_ret (pe_lst (L2.pa_cons (pe_callB (call_max2 rfl) rfl Z.fr_max (by decide +kernel) (L2.pa_cons pe_int (L2.pa_cons (pe_op op_sub (pe_var (i := 2) rfl (Or.inl rfl)) (pe_op op_pow pe_int pe_int)) L2.pa_nil)))
      (L2.pa_cons (pe_op op_add (pe_op op_mod (pe_callTy call_int1 rfl Z.fr_int (by decide +kernel) (L2.pa_cons (pe_op op_add (pe_op op_add (pe_op op_mulW (pe_op op_mod (pe_callTy call_int1 rfl Z.fr_int (by decide +kernel) (L2.pa_cons (pe_var (i := 2) rfl (Or.inl rfl)) L2.pa_nil)) pe_int) pe_int) (pe_op op_mulW pe_int (pe_var (i := 1) rfl (Or.inl rfl)))) pe_int) L2.pa_nil)) pe_int) pe_int) L2.pa_nil))))), ?_⟩
  obtain ⟨t, ns, k, rfl, hk, hn, hs, q⟩ := h
  have cm : ∀ (i j : Int), i.natAbs < 2 ^ 64 → j.natAbs < 2 ^ 64 → CMulW i j := fun i j h1 h2 => by
    have g1 := PySem.W.mg_log (k := 63) h1
    have g2 := PySem.W.mg_log (k := 63) h2
    unfold CMulW
    omega
  have cp : CPow 10 18 := by unfold CPow; decide +kernel
  have hz : ∀ x y : V, [x, y].length ≤ sizeLine := fun x y => sz100 (by simp)
  refine ⟨.int k, rfl, .ref t, rfl, t, _, rfl, .inl hs, _, _, rfl, rfl, _, rfl, ?_⟩
  show (if decide (_ < _) = true then _ else _)
  by_cases hlt : (k : Int) < ((ns.map V.int).length : Int)
  · rw [if_pos (decide_eq_true hlt)]
    have hat : atI (ns.map V.int) (k : Int) = some (.int (ns.getD k 0)) := by
      have h1 : k < ns.length := by rw [List.length_map] at hlt; omega
      unfold atI ixN
      rw [if_pos (by omega), if_pos hlt]
      show (ns.map V.int)[((k : Int)).toNat]? = _
      rw [Int.toNat_natCast, List.getElem?_map, List.getElem?_eq_getElem h1, List.getD_eq_getElem?_getD, List.getElem?_eq_getElem h1]
      rfl
    refine ⟨.ref t, rfl, .int k, rfl, .inl ⟨t, _, _, .int (ns.getD k 0), rfl, rfl, hs, hat, _, rfl, ?_⟩⟩
    generalize (if ns.getD k 0 < 0 then -(ns.getD k 0) else ns.getD k 0) = c
    exact ⟨.int c, rfl, _, _, rfl, rfl, cp, _, _, rfl, rfl, _, _, rfl, .int c, rfl, .inl ⟨c, rfl, _, _, rfl, rfl, by omega, _, _, rfl, rfl, cm _ _ (by omega) (by omega), .int k, rfl, _, _, rfl, rfl, cm _ _ (by omega) (by omega), _, _, rfl, rfl, _, _, rfl, rfl,
      .inl ⟨_, rfl, _, _, rfl, rfl, by omega, _, _, rfl, rfl, hz _ _, fun p hp => q _ _ p (by split <;> omega) (by omega) (by omega) hp⟩⟩⟩
  · rw [if_neg (fun z => hlt (of_decide_eq_true z))]
    refine ⟨.int k, rfl, _, _, rfl, rfl, cm _ _ (by omega) (by omega), _, _, rfl, rfl, ?_⟩
    exact ⟨.int (1723 * (k : Int) + 797), rfl, _, _, rfl, rfl, cp, _, _, rfl, rfl, _, _, rfl, .int (1723 * (k : Int) + 797), rfl, .inl ⟨1723 * (k : Int) + 797, rfl, _, _, rfl, rfl, by omega, _, _, rfl, rfl, cm _ _ (by omega) (by omega), .int k, rfl, _, _, rfl, rfl, cm _ _ (by omega) (by omega), _, _, rfl, rfl, _, _, rfl, rfl,
      .inl ⟨_, rfl, _, _, rfl, rfl, by omega, _, _, rfl, rfl, hz _ _, fun p hp => q _ _ p (by split <;> omega) (by omega) (by omega) hp⟩⟩⟩
theorem w_pot (Z : Zx P w K mg base) : ∃ fd, FnD false P w K mg base 1 (He.ga K "_law_pot") fd ["script", "k"] (spPot K) ∧ PySem.W.keepIn K (.ref (He.ga K "_law_pot")) = true ∧ Binds K fd ["script", "k"] [] := by
  obtain ⟨fd, D⟩ := Z.says.def_ 32 (d := z__law_pot)
  refine ⟨fd, fn_enter (k := 0) D S_pot (fun vs H Q E h => ?_) (fun cdv A outer s H vs Q E hr hg h => b_pot Z cdv A outer s H E vs Q h), D.kp, D.bindsN (fun _ _ _ _ _ _ us hl => match us, hl with
    | [a0, a1], _ => rfl)⟩
  obtain ⟨t, ns, k, rfl, _⟩ := h
  rfl
def N_law : List Str := ["script", "k"]
theorem S_law : FnScope N_law ["script"] (defScope (top 65)) := ⟨rfl, rfl, rfl, by decide +kernel, rfl, by decide +kernel, by decide +kernel⟩
theorem b_law (Z : Zx P w K mg base) (hright : ∀ a b : Int, 0 ≤ a → 0 ≤ b → b < 2147483648 → ∃ p', d__law_right [.pot] (a, b) = some (.bl true, p')) (cdv : Value) (A : Around) (outer : List Env) (s : Shared) (H : Hp) (E : XK) (hr : Room 12 (A.deeper (envOfC "law" (defScope (top 65)) s.heap.objs.size (He.ga K "law") cdv))) (hg : A.guards = some []) (vs : List V) (Q : VK) (h : spTrue K 63 vs H Q E) :
    ∃ t, PSs (cx0 P w K mg base N_law "law" (defScope (top 65)) (He.ga K "law") cdv A outer s H E) (defBody (top 65)) t ∧ t { nx := fun _ H' => Q .non H', rt := Q } (L2.start N_law vs) H := by
  obtain ⟨fdp, Fp, hkp, hbp⟩ := w_pot Z
  obtain ⟨fdr, Fr, _, hkr, hbr, _⟩ := w__law_right Z
  refine ⟨_, pss_one (ps_ret (pe_callB (cr_all rfl) rfl Z.fr_all (by decide +kernel) (L2.pa_cons (pe_lc (own := [("k", 1)]) rfl S_law.nd (pi_range1 rfl Z.fr_range (L2.pa_cons (pe_callB (call_max2 rfl) rfl Z.fr_max (by decide +kernel) (L2.pa_cons pe_int (L2.pa_cons (pe_callB (call_min2 rfl) rfl Z.fr_min (by decide +kernel) (L2.pa_cons pe_int (L2.pa_cons (pe_callB call_len_seq rfl Z.fr_len (by decide +kernel) (L2.pa_cons (pe_var (i := 0) rfl (.inr (.inl rfl))) L2.pa_nil)) L2.pa_nil))) L2.pa_nil))) L2.pa_nil))
    (blkOk_by rfl) (fun _ _ _ _ _ => pg_name (i := 1) S_law.nd rfl (Or.inl rfl)) (fun _ _ _ _ _ => pts_nil)
    (fun _ _ _ _ _ => pe_callD Fr (hr.mono (by decide)) (fun _ => hg) (Z.glo__law_right) hkr hbr (L2.pa_cons (pe_callD Fp (hr.mono (by decide)) (fun (z : false = true) => nomatch z) (Z.glo__law_pot) hkp hbp (L2.pa_cons (pe_var (i := 0) rfl (by first | exact Or.inl rfl | exact Or.inr (Or.inl rfl) | exact Or.inr (Or.inr rfl))) (L2.pa_cons (pe_var (i := 1) rfl (Or.inl rfl)) L2.pa_nil))) L2.pa_nil))) L2.pa_nil))), ?_⟩
  obtain ⟨t, ns, rfl, hn, hO, hs, q⟩ := h
  have hjn : ∃ j : Nat, j ≤ 2 ∧ ((if (if ((ns.map V.int).length : Int) < 2 then ((ns.map V.int).length : Int) else 2) > 1 then (if ((ns.map V.int).length : Int) < 2 then ((ns.map V.int).length : Int) else 2) else 1) : Int) = (j : Int) := by
    split <;> split <;> first | exact ⟨2, by omega, by omega⟩ | exact ⟨1, by omega, by omega⟩ | exact ⟨(ns.map V.int).length, by omega, by omega⟩
  obtain ⟨j, hj, hje⟩ := hjn
  refine ⟨.ref t, rfl, t, _, rfl, .inl hs, _, _, rfl, _, _, rfl, _, rfl, ?_, ?_, ?_⟩
  · exact Int.le_trans (by omega) (Int.le_of_eq hje.symm)
  · exact Int.lt_of_le_of_lt (Int.le_of_eq hje) (by omega)
  intro D hD
  have rep1 : ∀ i : Nat, (List.replicate i true).map V.bl ++ [V.bl true] = (List.replicate (i + 1) true).map V.bl := fun i => by
    rw [List.replicate_succ', List.map_append]; rfl
  refine ⟨fun i m H' => m = j - i ∧ i ≤ j ∧ H' D = some (.lst ((List.replicate i true).map V.bl)) ∧ ∀ b o, H b = some o → H' b = some o, ⟨_, rfl, Nat.zero_le _, upd_same, fun b o hb => ?_⟩, ?_⟩
  · rw [upd_ne (fun z => by rw [z, hD] at hb; cases hb)]; exact hb
  rintro i m H' ⟨rfl, hij, hDl, hfr⟩
  have hjn2 : (Int.toNat _) = j := (congrArg Int.toNat hje).trans (Int.toNat_natCast j)
  by_cases hlt : i < j
  · right
    refine ⟨Nat.lt_of_lt_of_eq hlt hjn2.symm, fun H2 => H2 D = some (.lst ((List.replicate (i + 1) true).map V.bl)) ∧ ∀ b o, H b = some o → H2 b = some o, fun H2 hq => ⟨j - (i + 1), by omega, rfl, hlt, hq.1, hq.2⟩, fun x H2 hy => ?_⟩
    obtain ⟨rfl, rfl⟩ := hy
    refine ⟨rfl, ?_⟩
    unfold tYes
    dsimp only
    rw [if_pos rfl]
    refine ⟨.ref t, rfl, .int (0 + (i : Int)), rfl, t, ns, i, by rw [Int.zero_add], by omega, hn, hs.ext hfr, fun a b t' ha hb hb2 ht' => ?_⟩
    obtain ⟨p', hp'⟩ := hright a b ha hb hb2
    have hDt : D ≠ t' := fun z => by rw [← z, hDl] at ht'; cases ht'
    have hE : Evl.Ex (fun _ => none) (upd H2 t' (.lst [.int a, .int b])) := fun b o z => nomatch (show (none : Option HO) = some o from z)
    have hR : Reps K (csK K) t' (fun _ => none) [DL.D.pot] [V.ref t'] := reps_cons (show Rep K (csK K) t' (fun _ => none) .pot (.ref t') by simp only [Rep]) reps_nil
    refine ⟨t', fun _ => none, [DL.D.pot], (a, b), _, p', rfl, hE, upd_same, rfl, hR, hp', fun B' H4 v n hp4 r => ?_⟩
    simp only [Rep] at r
    subst r
    have hD4 : H4 D = some (.lst ((List.replicate i true).map V.bl)) := n.fr D _ (by rw [upd_ne hDt]; exact hDl) hDt
    refine ⟨_, hD4, ?_, ?_, fun b o hb => ?_⟩
    · rw [List.length_map, List.length_replicate, sizeLine_eq]; omega
    · rw [upd_same, rep1]
    · have h1 : b ≠ D := fun z => by rw [z, hD] at hb; cases hb
      have h2 : H2 b = some o := hfr b o hb
      have h3 : b ≠ t' := fun z => by rw [z, ht'] at h2; cases h2
      rw [upd_ne h1]
      exact n.fr b o (by rw [upd_ne h3]; exact h2) h3
  · left
    have : i = j := by omega
    subst this
    refine ⟨Nat.le_of_eq hjn2, ?_⟩
    refine ⟨D, List.replicate i true, rfl, SqL.of hDl, ?_⟩
    rw [show (List.replicate i true).all id = true by simp]
    exact q H' hfr
theorem w_law (Z : ∀ base, Zx P w K mg base) (hright : ∀ a b : Int, 0 ≤ a → 0 ≤ b → b < 2147483648 → ∃ p', d__law_right [.pot] (a, b) = some (.bl true, p')) : ∃ fd, (∀ base, FnD true P w K mg base 13 (He.ga K "law") fd ["script"] (spTrue K 63)) ∧ ∀ (s : Shared) (u : Value), BindsTo s fd ⟨[u], []⟩ [("script", u)] := by
  obtain ⟨fd, D⟩ := (Z { objs := #[] }).says.def_ 48 (d := z_law)
  refine ⟨fd, fun base => fn_enter (k := 12) D S_law (fun vs H Q E h => ?_) (fun cdv A outer s H vs Q E hr hg h => b_law (Z base) hright cdv A outer s H E hr (hg rfl) vs Q h), fun s u => ?_⟩
  · obtain ⟨t, ns, rfl, _⟩ := h
    rfl
  · have b := FunD.bindsA (ps := ["script"]) D fun _ _ _ _ _ _ us hl => match us, hl with | [_], _ => rfl
    exact b s [u] rfl
end
end Q
end

section
set_option Elab.async false
set_option linter.all false
set_option maxRecDepth 100000
set_option maxHeartbeats 0
namespace Q
open PySem PySem.Spec PyProof.Rows L2 DL
end Q
open PySem PySem.W PySem.Calls PyProof.Rows
theorem PySem.Challenge.cw_sheetdeals_k47_whole_deals_done_and_undo_holds : PySem.Challenge.rw_sheetdeals_k47_whole_deals_done_and_undo.Holds := by
  w_on; o_law
  refine HandSHeadRun.head_imp (r := OpenLaw.row PySem.Challenge.rw_sheetdeals_k47_whole_deals_done_and_undo) (q := view (OpenLaw.row PySem.Challenge.rw_sheetdeals_k47_whole_deals_done_and_undo).prog [0, 65]) (H := Q.hk) (ob := Q.ob) (M := 9000) (loose := Q.looseAll) (d := HandSHeadRun.topDef (OpenLaw.row PySem.Challenge.rw_sheetdeals_k47_whole_deals_done_and_undo).prog 65) (kwd := []) Q.ob_eq
    Q.run (by kernel_rfl) (by kernel_rfl) (by kernel_rfl) (by rfl) (by first | assumption | decide +kernel) (by decide +kernel) ⟨rfl, rfl, rfl, rfl, rfl, by decide +kernel⟩ ?hw ?hc
  case hw => w_witness2
  case hc =>
    refine DL.walk_law (l := PySem.Challenge.rw_sheetdeals_k47_whole_deals_done_and_undo) (n := 63) (k := 13) (x := "script") rfl (by decide) (by kernel_rfl) ⟨rfl, by decide, by decide⟩ ?F
    intro w mg fa h Y G hmg0
    obtain ⟨K, KX, c⟩ := Y
    have hmg : mg ("law" : PySem.Str) = some (.ref fa) := by
      have e : (HandSHeadRun.topDef (OpenLaw.row PySem.Challenge.rw_sheetdeals_k47_whole_deals_done_and_undo).prog 65).name = ("law" : PySem.Str) := by kernel_rfl
      rw [← e]
      exact hmg0
    have Z0 : ∀ base : Heap, Q.Zx PySem.Challenge.rw_sheetdeals_k47_whole_deals_done_and_undo.prog w K mg base := fun base => ⟨c, ⟨h, KX, G⟩⟩
    have e := hmg.symm.trans (Z0 h).glo_law
    cases e
    obtain ⟨fd, hF, hb⟩ := Q.w_law Z0 fun a b h1 h2 h3 => Q.hright ⟨h1, h2, h3⟩
    exact ⟨K, fd, KX, hb, fun base _ _ => hF base⟩
end
