import PyProof.Rows.All
import Wide.All
import OpenK.AllK
import Wide.FinOn
import KE.KStateDown
import HandS.ForMost
import HandS.ForExc
import HandS.Defaults
import HandS.Evl
import HandS.Property
import HandS.IsInst
import HandS.Conv
import HandS.Wide
import HandS.Gcd
import HandS.Style
import HandS.OwnEq
import PyProof.InstNe
import OpenK.KOps
import PyProof.ReprNest
import PyProof.ReprRoads
import HandS.RaiseMore
import HandS.FStr
import HandS.WideBits
import HandS.Text
import HandS.TryOnly
import HandS.Head0
import HandS.Head1
import HandS.Head2
import HandS.HeadEnd
import HandS.HeadHook1
import HandS.HeadHook2
import HandS.HeadHook3
import HandS.HeadHook4
import HandS.Head3
import HandS.SortInts
import PyProof.TupleOfSeq
import PySem.Challenge.RW_sheetdeals_k42_any_value_as_deal_and_pla
section
set_option Elab.async false
set_option linter.all false
set_option maxRecDepth 100000
set_option maxHeartbeats 4000000
/-! DL: values as data, what a heap says of them, states, denotations. -/
namespace DL
open PySem PySem.Spec PyProof.Rows L2
open Evl (Ex)

/-- a value as data -/
inductive D where
  | non | bl (b : Bool) | int (i : Int) | str (x : Str)
  | lst (ds : List D) | tup (ds : List D) | ins (c : Nat) (ds : List D) | pot | ed

/-- the two numbers of the drawing pot -/
abbrev Pt := Int × Int
/-- what is reckoned, with the pot threaded; none: nothing is said -/
abbrev Mo (α : Type) := Pt → Option (α × Pt)

/-- the classes: where they stand, the names of their instances' attributes in order -/
abbrev CT := Nat → Option (Addr × List Str)

section
variable (K : PySem.W.Frag) (cs : CT) (ap : Addr) (B : Hp)
mutual
def Rep : D → V → Prop
  | .non, v => v = .non
  | .bl b, v => v = .bl b
  | .int i, v => v = .int i
  | .str x, v => v = .str x
  | .lst ds, v => ∃ a xs, v = .ref a ∧ B a = some (.lst xs) ∧ Reps ds xs
  | .tup ds, v => ∃ a xs, v = .ref a ∧ SqT K B a xs ∧ Reps ds xs
  | .ins c ds, v => ∃ a C fn dx fs, v = .ref a ∧ cs c = some (C, fn) ∧ B a = some (.ins C dx fs) ∧ fs.map (·.1) = fn ∧ Reps ds (fs.map (·.2))
  | .pot, v => v = .ref ap
  | .ed, v => ∃ a, v = .ref a ∧ B a = some (.dK [])
def Reps : List D → List V → Prop
  | [], xs => xs = []
  | d :: ds, xs => ∃ x r, xs = x :: r ∧ Rep d x ∧ Reps ds r
end
end

section
variable {K : PySem.W.Frag} {cs : CT} {ap : Addr} {B B' : Hp}
theorem rep_mono_aux (e : Ex B B') : (∀ d v, Rep K cs ap B d v → Rep K cs ap B' d v) ∧ (∀ ds xs, Reps K cs ap B ds xs → Reps K cs ap B' ds xs) := by
  refine ⟨fun d => ?_, fun ds => ?_⟩
  · refine D.rec (motive_1 := fun d => ∀ v, Rep K cs ap B d v → Rep K cs ap B' d v) (motive_2 := fun ds => ∀ xs, Reps K cs ap B ds xs → Reps K cs ap B' ds xs)
      ?_ ?_ ?_ ?_ ?_ ?_ ?_ ?_ ?_ ?_ ?_ d
    · intro v h; simpa only [Rep] using h
    · intro b v h; simpa only [Rep] using h
    · intro b v h; simpa only [Rep] using h
    · intro b v h; simpa only [Rep] using h
    · intro ds ih v h
      simp only [Rep] at h ⊢
      obtain ⟨a, xs, rfl, h1, h2⟩ := h
      exact ⟨a, xs, rfl, e _ _ h1, ih _ h2⟩
    · intro ds ih v h
      simp only [Rep] at h ⊢
      obtain ⟨a, xs, rfl, h1, h2⟩ := h
      exact ⟨a, xs, rfl, Evl.ex_t e h1, ih _ h2⟩
    · intro c ds ih v h
      simp only [Rep] at h ⊢
      obtain ⟨a, C, fn, dx, fs, rfl, h0, h1, h2, h3⟩ := h
      exact ⟨a, C, fn, dx, fs, rfl, h0, e _ _ h1, h2, ih _ h3⟩
    · intro v h; simpa only [Rep] using h
    · intro v h
      simp only [Rep] at h ⊢
      obtain ⟨a, rfl, h1⟩ := h
      exact ⟨a, rfl, e _ _ h1⟩
    · intro xs h; simpa only [Reps] using h
    · intro d ds i1 i2 xs h
      simp only [Reps] at h ⊢
      obtain ⟨x, r, rfl, h1, h2⟩ := h
      exact ⟨x, r, rfl, i1 _ h1, i2 _ h2⟩
  · induction ds with
    | nil => intro xs h; simpa only [Reps] using h
    | cons d ds ih =>
      intro xs h
      simp only [Reps] at h ⊢
      obtain ⟨x, r, rfl, h1, h2⟩ := h
      refine ⟨x, r, rfl, ?_, ih _ h2⟩
      refine D.rec (motive_1 := fun d => ∀ v, Rep K cs ap B d v → Rep K cs ap B' d v) (motive_2 := fun ds => ∀ xs, Reps K cs ap B ds xs → Reps K cs ap B' ds xs)
        ?_ ?_ ?_ ?_ ?_ ?_ ?_ ?_ ?_ ?_ ?_ d x h1
      · intro v h; simpa only [Rep] using h
      · intro b v h; simpa only [Rep] using h
      · intro b v h; simpa only [Rep] using h
      · intro b v h; simpa only [Rep] using h
      · intro ds ih v h
        simp only [Rep] at h ⊢
        obtain ⟨a, xs, rfl, h1, h2⟩ := h
        exact ⟨a, xs, rfl, e _ _ h1, ih _ h2⟩
      · intro ds ih v h
        simp only [Rep] at h ⊢
        obtain ⟨a, xs, rfl, h1, h2⟩ := h
        exact ⟨a, xs, rfl, Evl.ex_t e h1, ih _ h2⟩
      · intro c ds ih v h
        simp only [Rep] at h ⊢
        obtain ⟨a, C, fn, dx, fs, rfl, h0, h1, h2, h3⟩ := h
        exact ⟨a, C, fn, dx, fs, rfl, h0, e _ _ h1, h2, ih _ h3⟩
      · intro v h; simpa only [Rep] using h
      · intro v h
        simp only [Rep] at h ⊢
        obtain ⟨a, rfl, h1⟩ := h
        exact ⟨a, rfl, e _ _ h1⟩
      · intro xs h; simpa only [Reps] using h
      · intro d ds i1 i2 xs h
        simp only [Reps] at h ⊢
        obtain ⟨x, r, rfl, h1, h2⟩ := h
        exact ⟨x, r, rfl, i1 _ h1, i2 _ h2⟩
theorem Rep.mono {d : D} {v : V} (h : Rep K cs ap B d v) (e : Ex B B') : Rep K cs ap B' d v := (rep_mono_aux e).1 d v h
theorem Reps.mono {ds : List D} {xs : List V} (h : Reps K cs ap B ds xs) (e : Ex B B') : Reps K cs ap B' ds xs := (rep_mono_aux e).2 ds xs h
theorem reps_nil : Reps K cs ap B [] [] := by simp only [Reps]
theorem reps_cons {d : D} {v : V} {ds : List D} {xs : List V} (h : Rep K cs ap B d v) (t : Reps K cs ap B ds xs) : Reps K cs ap B (d :: ds) (v :: xs) := by
  simp only [Reps]; exact ⟨v, xs, rfl, h, t⟩
theorem Reps.length : ∀ {ds : List D} {xs : List V}, Reps K cs ap B ds xs → xs.length = ds.length
  | [], xs, h => by simp only [Reps] at h; rw [h]; rfl
  | d :: ds, xs, h => by
    simp only [Reps] at h
    obtain ⟨x, r, rfl, _, h2⟩ := h
    rw [List.length_cons, List.length_cons, Reps.length h2]
theorem Reps.get : ∀ {ds : List D} {xs : List V} {i : Nat} {d : D}, Reps K cs ap B ds xs → ds[i]? = some d → ∃ x, xs[i]? = some x ∧ Rep K cs ap B d x
  | [], _, _, _, _, e => by simp at e
  | d :: ds, xs, 0, d', h, e => by
    simp only [Reps] at h
    obtain ⟨x, r, rfl, h1, h2⟩ := h
    simp at e; subst e
    exact ⟨x, rfl, h1⟩
  | d :: ds, xs, i + 1, d', h, e => by
    simp only [Reps] at h
    obtain ⟨x, r, rfl, h1, h2⟩ := h
    obtain ⟨y, h3, h4⟩ := Reps.get (i := i) h2 (by simpa using e)
    exact ⟨y, by simpa using h3, h4⟩
theorem Reps.append : ∀ {ds es : List D} {xs ys : List V}, Reps K cs ap B ds xs → Reps K cs ap B es ys → Reps K cs ap B (ds ++ es) (xs ++ ys)
  | [], _, xs, _, h, h' => by simp only [Reps] at h; subst h; exact h'
  | d :: ds, es, xs, ys, h, h' => by
    simp only [Reps] at h
    obtain ⟨x, r, rfl, h1, h2⟩ := h
    exact reps_cons h1 (Reps.append h2 h')
theorem Reps.take : ∀ {ds : List D} {xs : List V} (n : Nat), Reps K cs ap B ds xs → Reps K cs ap B (ds.take n) (xs.take n)
  | _, _, 0, _ => by simp [Reps]
  | [], xs, n + 1, h => by simp only [Reps] at h; subst h; simp [Reps]
  | d :: ds, xs, n + 1, h => by
    simp only [Reps] at h
    obtain ⟨x, r, rfl, h1, h2⟩ := h
    exact reps_cons h1 (Reps.take n h2)
theorem Reps.drop : ∀ {ds : List D} {xs : List V} (n : Nat), Reps K cs ap B ds xs → Reps K cs ap B (ds.drop n) (xs.drop n)
  | _, _, 0, h => h
  | [], xs, n + 1, h => by simp only [Reps] at h; subst h; simp [Reps]
  | d :: ds, xs, n + 1, h => by
    simp only [Reps] at h
    obtain ⟨x, r, rfl, h1, h2⟩ := h
    exact Reps.drop n h2
theorem Reps.set {d : D} {v : V} (r : Rep K cs ap B d v) : ∀ {ds : List D} {xs : List V} (i : Nat), Reps K cs ap B ds xs → Reps K cs ap B (ds.set i d) (xs.set i v)
  | [], xs, i, h => by simp only [Reps] at h; subst h; simp [Reps]
  | d' :: ds, xs, 0, h => by
    simp only [Reps] at h
    obtain ⟨x, t, rfl, h1, h2⟩ := h
    exact reps_cons r h2
  | d' :: ds, xs, i + 1, h => by
    simp only [Reps] at h
    obtain ⟨x, t, rfl, h1, h2⟩ := h
    exact reps_cons h1 (Reps.set r i h2)
theorem Reps.reverse : ∀ {ds : List D} {xs : List V}, Reps K cs ap B ds xs → Reps K cs ap B ds.reverse xs.reverse
  | [], xs, h => by simp only [Reps] at h; subst h; simp [Reps]
  | d :: ds, xs, h => by
    simp only [Reps] at h
    obtain ⟨x, t, rfl, h1, h2⟩ := h
    rw [List.reverse_cons, List.reverse_cons]
    exact (Reps.reverse h2).append (reps_cons h1 reps_nil)
theorem reps_ints : ∀ (ns : List Int), Reps K cs ap B (ns.map D.int) (ns.map V.int)
  | [] => by simp [Reps]
  | n :: ns => reps_cons (by simp only [Rep]) (reps_ints ns)
end

/-- from a heap to a later one: what B knows stays known, what stood stands (but the pot), nothing that stood becomes known -/
structure Nxt (ap : Addr) (B H B' H' : Hp) : Prop where
  bb : Ex B B'
  bh : Ex B' H'
  nw : ∀ a, H a ≠ none → B a = none → B' a = none
  fr : ∀ a o, H a = some o → a ≠ ap → H' a = some o
  nn : ∀ a, H a ≠ none → H' a ≠ none
def PotAt (ap : Addr) (H : Hp) (p : Pt) : Prop := H ap = some (.lst [.int p.1, .int p.2])
theorem Nxt.refl {ap : Addr} {B H : Hp} (e : Ex B H) : Nxt ap B H B H := ⟨Ex.refl _, e, fun _ _ h => h, fun _ _ h _ => h, fun _ h => h⟩
theorem Nxt.trans {ap : Addr} {B H B1 H1 B2 H2 : Hp} (a : Nxt ap B H B1 H1) (b : Nxt ap B1 H1 B2 H2) : Nxt ap B H B2 H2 :=
  ⟨a.bb.trans b.bb, b.bh, fun x h h' => b.nw x (a.nn x h) (a.nw x h h'), fun x o h hp => b.fr x o (a.fr x o h hp) hp, fun x h => b.nn x (a.nn x h)⟩
/-- a new object -/
theorem Nxt.new {ap : Addr} {B H : Hp} {q : Addr} {o : HO} (e : Ex B H) (h : H q = none) : Nxt ap B H (upd B q o) (upd H q o) := by
  have bq : B q = none := Evl.fresh_back e h
  refine ⟨Ex.new bq, fun a u ha => ?_, fun a ha hb => ?_, fun a u ha _ => ?_, fun a ha => ?_⟩
  · by_cases e1 : a = q
    · subst e1; rw [upd_same] at ha ⊢; exact ha
    · rw [upd_ne e1] at ha ⊢; exact e _ _ ha
  · have e1 : a ≠ q := fun z => ha (z ▸ h)
    rw [upd_ne e1]; exact hb
  · have e1 : a ≠ q := fun z => by rw [z, h] at ha; cases ha
    rw [upd_ne e1]; exact ha
  · have e1 : a ≠ q := fun z => ha (z ▸ h)
    rw [upd_ne e1]; exact ha
/-- a new object that is not known (it may change) -/
theorem Nxt.newU {ap : Addr} {B H : Hp} {q : Addr} {o : HO} (e : Ex B H) (h : H q = none) : Nxt ap B H B (upd H q o) := by
  have bq : B q = none := Evl.fresh_back e h
  refine ⟨Ex.refl _, fun a u ha => ?_, fun a ha hb => hb, fun a u ha _ => ?_, fun a ha => ?_⟩
  · have e1 : a ≠ q := fun z => by rw [z, bq] at ha; cases ha
    rw [upd_ne e1]; exact e _ _ ha
  · have e1 : a ≠ q := fun z => by rw [z, h] at ha; cases ha
    rw [upd_ne e1]; exact ha
  · have e1 : a ≠ q := fun z => ha (z ▸ h)
    rw [upd_ne e1]; exact ha
theorem PotAt.new {ap q : Addr} {H : Hp} {p : Pt} {o : HO} (h : PotAt ap H p) (hq : H q = none) : PotAt ap (upd H q o) p := by
  have e1 : ap ≠ q := fun z => by unfold PotAt at h; rw [z, hq] at h; cases h
  unfold PotAt; rw [upd_ne e1]; exact h

/-- a slot: nothing is said; it holds a datum; it holds a list that is this def's own; an instance that is being made -/
inductive SV where
  | un | val (d : D) | own (ds : List D) | mk (c : Nat) (ds : List D)
abbrev Env' := List SV
/-- only this def knows it -/
def SV.prv : SV → Bool
  | .own _ => true
  | .mk _ _ => true
  | _ => false

section
variable (K : PySem.W.Frag) (cs : CT) (ap : Addr)
def SlotOk (B H : Hp) : SV → Option (Option V) → Prop
  | .un, _ => True
  | .val d, o => ∃ v, o = some (some v) ∧ Rep K cs ap B d v
  | .own ds, o => ∃ a xs, o = some (some (.ref a)) ∧ B a = none ∧ H a = some (.lst xs) ∧ Reps K cs ap B ds xs
  | .mk c ds, o => ∃ a C fn dx fs, o = some (some (.ref a)) ∧ cs c = some (C, fn) ∧ B a = none ∧ H a = some (.ins C dx fs) ∧ fs.map (·.1) = fn.take ds.length ∧ fs.length = ds.length ∧ Reps K cs ap B ds (fs.map (·.2))

/-- the state in a def's body (entry: B0, H0) -/
structure Ok (H0 B0 B : Hp) (σ : L2.St) (env : Env') (H : Hp) (p : Pt) : Prop where
  st : Nxt ap B0 H0 B H
  pot : PotAt ap H p
  bap : B ap = none
  hap : H0 ap ≠ none
  sl : ∀ (i : Nat) sv, env[i]? = some sv → SlotOk K cs ap B H sv (σ[i]?)
  prvNew : ∀ (i : Nat) sv a, env[i]? = some sv → sv.prv = true → σ[i]? = some (some (.ref a)) → H0 a = none
  prvNe : ∀ (i j : Nat) sv sv' a, i ≠ j → env[i]? = some sv → env[j]? = some sv' → sv.prv = true → sv'.prv = true → σ[i]? = some (some (.ref a)) → σ[j]? ≠ some (some (.ref a))
  len : σ.length = env.length
  mkAt : ∀ (i : Nat) c ds a, env[i]? = some (.mk c ds) → σ[i]? = some (some (.ref a)) → H0 ap = some (.own a)
end

section
variable {K : PySem.W.Frag} {cs : CT} {ap : Addr} {H0 B0 B H B' H' : Hp} {σ : L2.St} {env : Env'} {p p' : Pt}
theorem Ok.bh (k : Ok K cs ap H0 B0 B σ env H p) : Ex B H := k.st.bh
theorem Ok.ownNew (k : Ok K cs ap H0 B0 B σ env H p) (i : Nat) (ds : List D) (a : Addr) (h : env[i]? = some (.own ds)) (h1 : σ[i]? = some (some (.ref a))) : H0 a = none := k.prvNew i _ a h rfl h1
theorem Ok.ownNe (k : Ok K cs ap H0 B0 B σ env H p) (i j : Nat) (ds es : List D) (a : Addr) (hn : i ≠ j) (h : env[i]? = some (.own ds)) (h' : env[j]? = some (.own es)) (h1 : σ[i]? = some (some (.ref a))) : σ[j]? ≠ some (some (.ref a)) := k.prvNe i j _ _ a hn h h' rfl rfl h1
theorem SlotOk.nxt {sv : SV} {o : Option (Option V)} (hs : SlotOk K cs ap B H sv o) (n : Nxt ap B H B' H') (hp : ∀ a, sv.prv = true → o = some (some (.ref a)) → a ≠ ap) : SlotOk K cs ap B' H' sv o := by
  cases sv with
  | un => trivial
  | val d => obtain ⟨v, h1, h2⟩ := hs; exact ⟨v, h1, h2.mono n.bb⟩
  | own ds =>
    obtain ⟨a, xs, h1, h2, h3, h4⟩ := hs
    exact ⟨a, xs, h1, n.nw a (by rw [h3]; exact fun z => nomatch z) h2, n.fr a _ h3 (hp a rfl h1), h4.mono n.bb⟩
  | mk c ds =>
    obtain ⟨a, C, fn, dx, fs, h1, h2, h3, h4, h5, h6, h7⟩ := hs
    exact ⟨a, C, fn, dx, fs, h1, h2, n.nw a (by rw [h4]; exact fun z => nomatch z) h3, n.fr a _ h4 (hp a rfl h1), h5, h6, h7.mono n.bb⟩
theorem Ok.nxt (k : Ok K cs ap H0 B0 B σ env H p) (n : Nxt ap B H B' H') (hp : PotAt ap H' p') : Ok K cs ap H0 B0 B' σ env H' p' := by
  have hh : H ap ≠ none := k.st.nn _ k.hap
  refine ⟨k.st.trans n, hp, n.nw _ hh k.bap, k.hap, fun i sv h => (k.sl i sv h).nxt n fun a h1 h2 z => ?_, k.prvNew, k.prvNe, k.len, k.mkAt⟩
  exact k.hap (z ▸ k.prvNew i sv a h h1 h2)
theorem SlotOk.un {o : Option (Option V)} : SlotOk K cs ap B H .un o := trivial
/-- a slot becomes a plain one -/
theorem Ok.setp (k : Ok K cs ap H0 B0 B σ env H p) {i : Nat} {sv : SV} {o : Option V} (hi : i < env.length) (hs : SlotOk K cs ap B H sv (some o)) (hp : sv.prv = false) : Ok K cs ap H0 B0 B (σ.set i o) (env.set i sv) H p := by
  refine ⟨k.st, k.pot, k.bap, k.hap, fun j sv' h => ?_, fun j sv' a h g h' => ?_, fun j l s1 s2 a hn h h' g1 g2 g => ?_, by rw [List.length_set, List.length_set]; exact k.len, fun j c ds a h g => ?_⟩
  · by_cases e : i = j
    · subst e
      rw [List.getElem?_set_self hi] at h
      cases h
      rw [List.getElem?_set_self (by rw [k.len]; exact hi)]
      exact hs
    · rw [List.getElem?_set_ne e] at h ⊢
      exact k.sl j sv' h
  · by_cases e : i = j
    · subst e; rw [List.getElem?_set_self hi] at h; cases h; rw [hp] at g; cases g
    · rw [List.getElem?_set_ne e] at h h'; exact k.prvNew j sv' a h g h'
  · by_cases e : i = j
    · subst e; rw [List.getElem?_set_self hi] at h; cases h; rw [hp] at g1; cases g1
    · by_cases e' : i = l
      · subst e'; rw [List.getElem?_set_self hi] at h'; cases h'; rw [hp] at g2; cases g2
      · rw [List.getElem?_set_ne e] at h g
        rw [List.getElem?_set_ne e'] at h' ⊢
        exact k.prvNe j l s1 s2 a hn h h' g1 g2 g
  · by_cases e : i = j
    · subst e; rw [List.getElem?_set_self hi] at h; cases h; cases hp
    · rw [List.getElem?_set_ne e] at h g; exact k.mkAt j c ds a h g
/-- a slot is set to a datum -/
theorem Ok.setv (k : Ok K cs ap H0 B0 B σ env H p) {i : Nat} {d : D} {v : V} (hi : i < env.length) (r : Rep K cs ap B d v) : Ok K cs ap H0 B0 B (σ.set i (some v)) (env.set i (.val d)) H p := k.setp hi ⟨v, rfl, r⟩ rfl
/-- a slot is set to a list of the def's own -/
theorem Ok.seto (k : Ok K cs ap H0 B0 B σ env H p) {i : Nat} {ds : List D} {a : Addr} {xs : List V} (hi : i < env.length) (hb : B a = none) (hh : H a = some (.lst xs)) (r : Reps K cs ap B ds xs)
    (h0 : H0 a = none) (hne : ∀ (j : Nat) es, j ≠ i → env[j]? = some (.own es) → σ[j]? ≠ some (some (.ref a))) : Ok K cs ap H0 B0 B (σ.set i (some (.ref a))) (env.set i (.own ds)) H p := by
  have hne' : ∀ (j : Nat) sv, j ≠ i → env[j]? = some sv → sv.prv = true → σ[j]? ≠ some (some (.ref a)) := by
    intro j sv hj h hp
    cases sv with
    | un => cases hp
    | val d => cases hp
    | own es => exact hne j es hj h
    | mk c es =>
      obtain ⟨b, C, fn, dx, fs, h1, _, _, h4, _⟩ := k.sl j _ h
      intro z
      rw [h1] at z
      cases z
      rw [hh] at h4
      cases h4
  refine ⟨k.st, k.pot, k.bap, k.hap, fun j sv h => ?_, fun j es b h g h' => ?_, fun j l es fs b hn h h' g1 g2 g => ?_, by rw [List.length_set, List.length_set]; exact k.len, fun j c ds a h g => ?_⟩
  · by_cases e : i = j
    · subst e
      rw [List.getElem?_set_self hi] at h
      cases h
      exact ⟨a, xs, List.getElem?_set_self (by rw [k.len]; exact hi), hb, hh, r⟩
    · rw [List.getElem?_set_ne e] at h ⊢
      exact k.sl j sv h
  · by_cases e : i = j
    · subst e
      rw [List.getElem?_set_self (by rw [k.len]; exact hi)] at h'
      cases h'
      exact h0
    · rw [List.getElem?_set_ne e] at h h'; exact k.prvNew j es b h g h'
  · by_cases e : i = j
    · subst e
      rw [List.getElem?_set_self (by rw [k.len]; exact hi)] at g
      cases g
      rw [List.getElem?_set_ne hn] at h' ⊢
      exact hne' l fs (fun z => hn z.symm) h' g2
    · by_cases e' : i = l
      · subst e'
        rw [List.getElem?_set_ne e] at h g
        rw [List.getElem?_set_self (by rw [k.len]; exact hi)]
        intro z
        cases z
        exact hne' j es (fun z => e z.symm) h g1 g
      · rw [List.getElem?_set_ne e] at h g
        rw [List.getElem?_set_ne e'] at h' ⊢
        exact k.prvNe j l es fs b hn h h' g1 g2 g
  · by_cases e : i = j
    · subst e; rw [List.getElem?_set_self hi] at h; cases h
    · rw [List.getElem?_set_ne e] at h g; exact k.mkAt j c ds a h g
/-- less is said of a slot; a private one becomes plain -/
theorem Ok.setd (k : Ok K cs ap H0 B0 B σ env H p) {i : Nat} {sv : SV} (hs : i < env.length → SlotOk K cs ap B H sv (σ[i]?)) (hp : sv.prv = false) : Ok K cs ap H0 B0 B σ (env.set i sv) H p := by
  by_cases hi : i < env.length
  · have hs := hs hi
    refine ⟨k.st, k.pot, k.bap, k.hap, fun j sv' h => ?_, fun j sv' a h g h' => ?_, fun j l s1 s2 a hn h h' g1 g2 g => ?_, by rw [List.length_set]; exact k.len, fun j c ds a h g => ?_⟩
    · by_cases e : i = j
      · subst e; rw [List.getElem?_set_self hi] at h; cases h; exact hs
      · rw [List.getElem?_set_ne e] at h; exact k.sl j sv' h
    · by_cases e : i = j
      · subst e; rw [List.getElem?_set_self hi] at h; cases h; rw [hp] at g; cases g
      · rw [List.getElem?_set_ne e] at h; exact k.prvNew j sv' a h g h'
    · by_cases e : i = j
      · subst e; rw [List.getElem?_set_self hi] at h; cases h; rw [hp] at g1; cases g1
      · by_cases e' : i = l
        · subst e'; rw [List.getElem?_set_self hi] at h'; cases h'; rw [hp] at g2; cases g2
        · rw [List.getElem?_set_ne e] at h
          rw [List.getElem?_set_ne e'] at h'
          exact k.prvNe j l s1 s2 a hn h h' g1 g2 g
    · by_cases e : i = j
      · subst e; rw [List.getElem?_set_self hi] at h; cases h; cases hp
      · rw [List.getElem?_set_ne e] at h; exact k.mkAt j c ds a h g
  · rw [List.set_eq_of_length_le (by omega)]; exact k
/-- more is known: a private object at a -/
theorem Ok.know (k : Ok K cs ap H0 B0 B σ env H p) {i : Nat} {sv : SV} {a : Addr} {o : HO} (h : env[i]? = some sv) (hp : sv.prv = true) (h1 : σ[i]? = some (some (.ref a))) (h2 : B a = none) (h3 : H a = some o) :
    Ex B (upd B a o) ∧ Ok K cs ap H0 B0 (upd B a o) σ (env.set i .un) H p := by
  have ha : H0 a = none := k.prvNew i sv a h hp h1
  have hi : i < env.length := (List.getElem?_eq_some_iff.mp h).1
  have nap : a ≠ ap := fun z => k.hap (z ▸ ha)
  have e1 : Ex B (upd B a o) := Ex.new h2
  refine ⟨e1, ⟨⟨k.st.bb.trans e1, fun b u hb => ?_, fun b hb hb' => ?_, k.st.fr, k.st.nn⟩, k.pot, by rw [upd_ne (fun z => nap z.symm)]; exact k.bap, k.hap, fun j sv' hj => ?_, fun j sv' b hj g1 g => ?_, fun j l s1 s2 b hn hj hl g1 g2 g => ?_, by rw [List.length_set]; exact k.len, fun j c ds b hj g => ?_⟩⟩
  · by_cases e : b = a
    · subst e; rw [upd_same] at hb; rw [h3]; exact hb
    · rw [upd_ne e] at hb; exact k.bh _ _ hb
  · have e : b ≠ a := fun z => hb (z ▸ ha)
    rw [upd_ne e]; exact k.st.nw b hb hb'
  · by_cases e : i = j
    · subst e; rw [List.getElem?_set_self hi] at hj; cases hj; trivial
    · rw [List.getElem?_set_ne e] at hj
      have hs := k.sl j sv' hj
      cases sv' with
      | un => trivial
      | val d => obtain ⟨v, g1, g2⟩ := hs; exact ⟨v, g1, g2.mono e1⟩
      | own es =>
        obtain ⟨b, ys, g1, g2, g3, g4⟩ := hs
        have ne : b ≠ a := fun z => by subst z; exact k.prvNe i j sv (.own es) b e h hj hp rfl h1 g1
        exact ⟨b, ys, g1, by rw [upd_ne ne]; exact g2, g3, g4.mono e1⟩
      | mk c es =>
        obtain ⟨b, C, fn, dx, fs, g1, g2, g3, g4, g5, g6, g7⟩ := hs
        have ne : b ≠ a := fun z => by subst z; exact k.prvNe i j sv (.mk c es) b e h hj hp rfl h1 g1
        exact ⟨b, C, fn, dx, fs, g1, g2, by rw [upd_ne ne]; exact g3, g4, g5, g6, g7.mono e1⟩
  · by_cases e : i = j
    · subst e; rw [List.getElem?_set_self hi] at hj; cases hj; cases g1
    · rw [List.getElem?_set_ne e] at hj; exact k.prvNew j sv' b hj g1 g
  · by_cases e : i = j
    · subst e; rw [List.getElem?_set_self hi] at hj; cases hj; cases g1
    · by_cases e' : i = l
      · subst e'; rw [List.getElem?_set_self hi] at hl; cases hl; cases g2
      · rw [List.getElem?_set_ne e] at hj
        rw [List.getElem?_set_ne e'] at hl
        exact k.prvNe j l s1 s2 b hn hj hl g1 g2 g
  · by_cases e : i = j
    · subst e; rw [List.getElem?_set_self hi] at hj; cases hj
    · rw [List.getElem?_set_ne e] at hj; exact k.mkAt j c ds b hj g
/-- an own list becomes a datum -/
theorem Ok.freeze (k : Ok K cs ap H0 B0 B σ env H p) {i : Nat} {ds : List D} (h : env[i]? = some (.own ds)) : ∃ B', Ex B B' ∧ Ok K cs ap H0 B0 B' σ (env.set i (.val (.lst ds))) H p := by
  obtain ⟨a, xs, h1, h2, h3, h4⟩ := k.sl i _ h
  obtain ⟨e1, k1⟩ := k.know h rfl h1 h2 h3
  have k2 := k1.setd (i := i) (sv := .val (.lst ds)) (fun _ => ⟨_, h1, by simp only [Rep]; exact ⟨a, xs, rfl, upd_same, h4.mono e1⟩⟩) rfl
  rw [List.set_set] at k2
  exact ⟨_, e1, k2⟩
/-- a private object is changed -/
theorem Ok.mutp (k : Ok K cs ap H0 B0 B σ env H p) {i : Nat} {sv sv' : SV} {a : Addr} {o' : HO} (h : env[i]? = some sv) (hp : sv.prv = true) (h1 : σ[i]? = some (some (.ref a))) (h2 : B a = none) (hp' : sv'.prv = true) (hs : SlotOk K cs ap B (upd H a o') sv' (some (some (.ref a)))) (hmk : ∀ c ds, sv' = .mk c ds → ∃ c' ds', sv = .mk c' ds') :
    Ok K cs ap H0 B0 B σ (env.set i sv') (upd H a o') p := by
  have hi : i < env.length := (List.getElem?_eq_some_iff.mp h).1
  have ha : H0 a = none := k.prvNew i sv a h hp h1
  have nap : a ≠ ap := fun z => k.hap (z ▸ ha)
  refine ⟨⟨k.st.bb, fun b o hb => ?_, k.st.nw, fun b o hb hn => ?_, fun b hb => ?_⟩, ?_, k.bap, k.hap, fun j s1 hj => ?_, fun j s1 b hj g1 g => ?_, fun j l s1 s2 b hn hj hl g1 g2 g => ?_, by rw [List.length_set]; exact k.len, fun j c ds b hj g => ?_⟩
  · have e : b ≠ a := fun z => by rw [z, h2] at hb; cases hb
    rw [upd_ne e]; exact k.bh _ _ hb
  · have e : b ≠ a := fun z => by rw [z, ha] at hb; cases hb
    rw [upd_ne e]; exact k.st.fr b o hb hn
  · have e : b ≠ a := fun z => hb (z ▸ ha)
    rw [upd_ne e]; exact k.st.nn b hb
  · unfold PotAt; rw [upd_ne (fun z => nap z.symm)]; exact k.pot
  · by_cases e : i = j
    · subst e
      rw [List.getElem?_set_self hi] at hj
      cases hj
      rw [h1]
      exact hs
    · rw [List.getElem?_set_ne e] at hj
      have hs := k.sl j s1 hj
      cases s1 with
      | un => trivial
      | val d => exact hs
      | own es =>
        obtain ⟨b, ys, g1, g2, g3, g4⟩ := hs
        have ne : b ≠ a := fun z => by subst z; exact k.prvNe i j sv (.own es) b e h hj hp rfl h1 g1
        exact ⟨b, ys, g1, g2, by rw [upd_ne ne]; exact g3, g4⟩
      | mk c es =>
        obtain ⟨b, C, fn, dx, fs, g1, g2, g3, g4, g5, g6, g7⟩ := hs
        have ne : b ≠ a := fun z => by subst z; exact k.prvNe i j sv (.mk c es) b e h hj hp rfl h1 g1
        exact ⟨b, C, fn, dx, fs, g1, g2, g3, by rw [upd_ne ne]; exact g4, g5, g6, g7⟩
  · by_cases e : i = j
    · subst e; exact k.prvNew i sv b h hp g
    · rw [List.getElem?_set_ne e] at hj; exact k.prvNew j s1 b hj g1 g
  · by_cases e : i = j
    · subst e
      rw [List.getElem?_set_ne hn] at hl
      exact k.prvNe i l sv s2 b hn h hl hp g2 g
    · by_cases e' : i = l
      · subst e'
        rw [List.getElem?_set_ne e] at hj
        exact k.prvNe j i s1 sv b hn hj h g1 hp g
      · rw [List.getElem?_set_ne e] at hj
        rw [List.getElem?_set_ne e'] at hl
        exact k.prvNe j l s1 s2 b hn hj hl g1 g2 g
  · by_cases e : i = j
    · subst e
      rw [List.getElem?_set_self hi] at hj
      cases hj
      obtain ⟨c', ds', z⟩ := hmk c ds rfl
      subst z
      exact k.mkAt i c' ds' b h g
    · rw [List.getElem?_set_ne e] at hj; exact k.mkAt j c ds b hj g
/-- an own list is changed -/
theorem Ok.mut (k : Ok K cs ap H0 B0 B σ env H p) {i : Nat} {ds ds' : List D} {a : Addr} {xs' : List V} (h : env[i]? = some (.own ds)) (h1 : σ[i]? = some (some (.ref a))) (r : Reps K cs ap B ds' xs') :
    Ok K cs ap H0 B0 B σ (env.set i (.own ds')) (upd H a (.lst xs')) p := by
  obtain ⟨a', xs, h1', h2, h3, h4⟩ := k.sl i _ h
  rw [h1] at h1'
  cases h1'
  exact k.mutp h rfl h1 h2 rfl ⟨a, xs', rfl, h2, upd_same, r⟩ (fun c ds z => nomatch z)
/-- less is said of a slot -/
theorem Ok.drop (k : Ok K cs ap H0 B0 B σ env H p) {i : Nat} : Ok K cs ap H0 B0 B σ (env.set i .un) H p := k.setd (fun _ => trivial) rfl
end
end DL
end

section
set_option Elab.async false
set_option linter.all false
set_option maxRecDepth 100000
set_option maxHeartbeats 4000000
/-! DL: expressions. -/
namespace DL
open PySem PySem.Spec PyProof.Rows L2
open Evl (Ex)

def retM {α : Type} (a : α) : Mo α := fun p => some (a, p)
def failM {α : Type} : Mo α := fun _ => none
def bindM {α β : Type} (m : Mo α) (f : α → Mo β) : Mo β := fun p => match m p with
  | none => none
  | some (a, p') => f a p'
@[simp] theorem bindM_ret {α β : Type} (a : α) (f : α → Mo β) : bindM (retM a) f = f a := rfl
@[simp] theorem bindM_fail {α β : Type} (f : α → Mo β) : bindM failM f = failM := rfl
theorem bindM_some {α β : Type} {m : Mo α} {f : α → Mo β} {p p' : Pt} {b : β} (h : bindM m f p = some (b, p')) : ∃ a p1, m p = some (a, p1) ∧ f a p1 = some (b, p') := by
  unfold bindM at h
  cases e : m p with
  | none => rw [e] at h; cases h
  | some q => obtain ⟨a, p1⟩ := q; rw [e] at h; exact ⟨a, p1, rfl, h⟩
@[simp] theorem bindM_assoc {α β γ : Type} (m : Mo α) (f : α → Mo β) (g : β → Mo γ) : bindM (bindM m f) g = bindM m fun a => bindM (f a) g := by
  funext p
  unfold bindM
  cases m p with
  | none => rfl
  | some q => rfl

/-- ends of an evaluation: a datum; a list that nothing else knows; a truth; data -/
def KE (K : PySem.W.Frag) (cs : CT) (ap : Addr) (B H : Hp) (p' : Pt) (d : D) (Q : VK) : Prop := ∀ B' H' v, Nxt ap B H B' H' → PotAt ap H' p' → Rep K cs ap B' d v → Q v H'
def KO (K : PySem.W.Frag) (cs : CT) (ap : Addr) (B H : Hp) (p' : Pt) (ds : List D) (Q : VK) : Prop :=
  ∀ B' H' a xs, Nxt ap B H B' H' → PotAt ap H' p' → H a = none → B' a = none → H' a = some (.lst xs) → Reps K cs ap B' ds xs → Q (.ref a) H'
def KT (ap : Addr) (B H : Hp) (p' : Pt) (b : Bool) (Q : Bool → Hp → Prop) : Prop := ∀ B' H', Nxt ap B H B' H' → PotAt ap H' p' → Q b H'
def KA (K : PySem.W.Frag) (cs : CT) (ap : Addr) (B H : Hp) (p' : Pt) (ds : List D) (Q : List V → Hp → Prop) : Prop := ∀ B' H' vs, Nxt ap B H B' H' → PotAt ap H' p' → Reps K cs ap B' ds vs → Q vs H'

section
variable (K : PySem.W.Frag) (cs : CT)
def EvE (te : TE) (m : Env' → Mo D) : Prop := ∀ ap H0 B0 B σ env H p (Q : VK) d p', Ok K cs ap H0 B0 B σ env H p → m env p = some (d, p') → KE K cs ap B H p' d Q → te σ H Q
def EvO (te : TE) (m : Env' → Mo (List D)) : Prop := ∀ ap H0 B0 B σ env H p (Q : VK) ds p', Ok K cs ap H0 B0 B σ env H p → m env p = some (ds, p') → KO K cs ap B H p' ds Q → te σ H Q
def EvT (tt : TT) (m : Env' → Mo Bool) : Prop := ∀ ap H0 B0 B σ env H p (Q : Bool → Hp → Prop) b p', Ok K cs ap H0 B0 B σ env H p → m env p = some (b, p') → KT ap B H p' b Q → tt σ H Q
def EvA (ta : TA) (m : Env' → Mo (List D)) : Prop := ∀ ap H0 B0 B σ env H p (Q : List V → Hp → Prop) ds p', Ok K cs ap H0 B0 B σ env H p → m env p = some (ds, p') → KA K cs ap B H p' ds Q → ta σ H Q
end
section
variable (cs : CT) (X : Cx)
structure PED (e : Expr) (m : Env' → Mo D) : Prop where
  ex : ∃ te, PE X e te ∧ EvE X.K cs te m
structure POD (e : Expr) (m : Env' → Mo (List D)) : Prop where
  ex : ∃ te, PE X e te ∧ EvO X.K cs te m
structure PTD (e : Expr) (m : Env' → Mo Bool) : Prop where
  ex : ∃ tt, PT X e tt ∧ EvT X.K cs tt m
structure PWD (e : Expr) (m : Env' → Mo Bool) : Prop where
  ex : ∃ tt, PW X e tt ∧ EvT X.K cs tt m
structure PAD (es : List Expr) (m : Env' → Mo (List D)) : Prop where
  ex : ∃ ta, PA X es ta ∧ EvA X.K cs ta m
end

/-! ### denotations -/
def mVar (i : Nat) : Env' → Mo D := fun env => match env[i]? with
  | some (.val d) => retM d
  | _ => failM
def mC (d : D) : Env' → Mo D := fun _ => retM d
def mBin (f : D → D → Mo D) (a b : Env' → Mo D) : Env' → Mo D := fun env => bindM (a env) fun x => bindM (b env) fun y => f x y
def mUn (f : D → Mo D) (a : Env' → Mo D) : Env' → Mo D := fun env => bindM (a env) f
def mLst (m : Env' → Mo (List D)) : Env' → Mo D := fun env => bindM (m env) fun ds => retM (.lst ds)
def mTup (m : Env' → Mo (List D)) : Env' → Mo D := fun env => bindM (m env) fun ds => if ds.length ≤ 100000 then retM (.tup ds) else failM
def mNew (m : Env' → Mo (List D)) : Env' → Mo (List D) := fun env => bindM (m env) fun ds => if ds.length ≤ 100000 then retM ds else failM
def mNil : Env' → Mo (List D) := fun _ => retM []
def mCons (a : Env' → Mo D) (m : Env' → Mo (List D)) : Env' → Mo (List D) := fun env => bindM (a env) fun x => bindM (m env) fun xs => retM (x :: xs)
/-- a truth out of a value that is a bool -/
def mB (a : Env' → Mo D) : Env' → Mo Bool := fun env => bindM (a env) fun x => match x with
  | .bl b => retM b
  | _ => failM
/-- a value out of a truth -/
def mTV (a : Env' → Mo Bool) : Env' → Mo D := fun env => bindM (a env) fun b => retM (.bl b)
def mAnd (a b : Env' → Mo Bool) : Env' → Mo Bool := fun env => bindM (a env) fun x => if x = true then b env else retM false
def mOr (a b : Env' → Mo Bool) : Env' → Mo Bool := fun env => bindM (a env) fun x => if x = true then retM true else b env
def mNot (a : Env' → Mo Bool) : Env' → Mo Bool := fun env => bindM (a env) fun x => retM (!x)
def mIf {α : Type} (c : Env' → Mo Bool) (a b : Env' → Mo α) : Env' → Mo α := fun env => bindM (c env) fun x => if x = true then a env else b env
def mCall (f : List D → Mo D) (m : Env' → Mo (List D)) : Env' → Mo D := fun env => bindM (m env) f
def mCallO (f : List D → Mo (List D)) (m : Env' → Mo (List D)) : Env' → Mo (List D) := fun env => bindM (m env) f

section
variable {cs : CT} {X : Cx} {e a b c : Expr} {es : List Expr} {m ma mb : Env' → Mo D} {pos : Pos}

/-- a fresh list as a datum -/
theorem POD.d {m : Env' → Mo (List D)} (h : POD cs X e m) : PED cs X e (mLst m) := by
  obtain ⟨te, h1, h2⟩ := h.ex
  refine ⟨te, h1, fun ap H0 B0 B σ env H p Q d p' k hm q => ?_⟩
  obtain ⟨ds, p1, e1, e2⟩ := bindM_some hm
  cases e2
  refine h2 ap H0 B0 B σ env H p Q ds p' k e1 fun B' H' a xs n hp hn hb hh r => ?_
  have ex : Ex B' (upd B' a (.lst xs)) := Ex.new hb
  refine q (upd B' a (.lst xs)) H' (.ref a) ⟨n.bb.trans ex, fun b o hbo => ?_, fun b hb1 hb2 => ?_, n.fr, n.nn⟩ hp (by simp only [Rep]; exact ⟨a, xs, rfl, upd_same, r.mono ex⟩)
  · by_cases z : b = a
    · subst z; rw [upd_same] at hbo; rw [hh]; exact hbo
    · rw [upd_ne z] at hbo; exact n.bh _ _ hbo
  · have z : b ≠ a := fun z => hb1 (z ▸ hn)
    rw [upd_ne z]; exact n.nw b hb1 hb2

theorem p_var (i : Nat) {x : Str} (hN : X.N[i]? = some x := by rfl) (hv : Vis X.env.scope x := by first | exact Or.inl rfl | exact Or.inr (Or.inl rfl) | exact Or.inr (Or.inr rfl)) (hd : (x == ("__debug__" : Str)) = false := by decide)
    (hcd : (x == ("__classdict__" : Str)) = false := by decide) : PED cs X (.Name x pos) (mVar i) := by
  refine ⟨tVar i, pe_var hN hv hd hcd, fun ap H0 B0 B σ env H p Q d p' k hm q => ?_⟩
  unfold mVar at hm
  cases g : env[i]? with
  | none => rw [g] at hm; cases hm
  | some sv =>
    rw [g] at hm
    cases sv with
    | un => cases hm
    | own ds => cases hm
    | mk c ds => cases hm
    | val d' =>
      cases hm
      obtain ⟨v, h1, h2⟩ := k.sl i _ g
      exact ⟨v, h1, q B H v (Nxt.refl k.bh) k.pot h2⟩
theorem p_const {v : V} {d : D} (h : PE X e (tC v)) (r : ∀ ap B, Rep X.K cs ap B d v) : PED cs X e (mC d) := by
  refine ⟨tC v, h, fun ap H0 B0 B σ env H p Q d' p' k hm q => ?_⟩
  cases hm
  exact q B H v (Nxt.refl k.bh) k.pot (r ap B)
theorem p_int {i j} : PED cs X (.Constant (.int i) j pos) (mC (.int i)) := p_const pe_int fun _ _ => by simp only [Rep]
theorem p_bl {b j} : PED cs X (.Constant (.bool b) j pos) (mC (.bl b)) := p_const pe_bl fun _ _ => by simp only [Rep]
theorem p_non {j} : PED cs X (.Constant .none j pos) (mC .non) := p_const pe_non fun _ _ => by simp only [Rep]
theorem p_str {x j} : PED cs X (.Constant (.str x) j pos) (mC (.str x)) := p_const pe_str fun _ _ => by simp only [Rep]
/-- a constant of the module -/
theorem p_gint {x : Str} {i : Int} {t : Tok} (hg : Gl X x) (hm : X.mg x = some (.int i t)) (hd : (x == ("__debug__" : Str)) = false := by decide) : PED cs X (.Name x pos) (mC (.int i)) :=
  p_const (pe_glob hg hm (v := .int i) ⟨t, rfl⟩ hd) fun _ _ => by simp only [Rep]
theorem p_gstr {x z : Str} {t : Tok} (hg : Gl X x) (hm : X.mg x = some (.str z t)) (hd : (x == ("__debug__" : Str)) = false := by decide) : PED cs X (.Name x pos) (mC (.str z)) :=
  p_const (pe_glob hg hm (v := .str z) ⟨t, rfl⟩ hd) fun _ _ => by simp only [Rep]

/-- a two-place operation -/
def OpD (cs : CT) (X : Cx) (f : Value → Value → Sem Value) (m : D → D → Mo D) : Prop :=
  ∃ r : R2, OpR X f r ∧ ∀ ap B H p x y v u (Q : VK) d p', Ex B H → PotAt ap H p → B ap = none → Rep X.K cs ap B x v → Rep X.K cs ap B y u → m x y p = some (d, p') → KE X.K cs ap B H p' d Q → r v u H Q
theorem bin_ev {K : PySem.W.Frag} {r : R2} {f : D → D → Mo D} {ta tb : TE} (ha : EvE K cs ta ma) (hb : EvE K cs tb mb)
    (hr : ∀ ap B H p x y v u (Q : VK) d p', Ex B H → PotAt ap H p → B ap = none → Rep K cs ap B x v → Rep K cs ap B y u → f x y p = some (d, p') → KE K cs ap B H p' d Q → r v u H Q) : EvE K cs (tOp r ta tb) (mBin f ma mb) := by
  intro ap H0 B0 B σ env H p Q d p' k hm q
  obtain ⟨x, p1, e1, e2⟩ := bindM_some hm
  obtain ⟨y, p2, e3, e4⟩ := bindM_some e2
  refine ha ap H0 B0 B σ env H p _ x p1 k e1 fun B1 H1 v n1 hp1 r1 => ?_
  have k1 := k.nxt n1 hp1
  refine hb ap H0 B0 B1 σ env H1 p1 _ y p2 k1 e3 fun B2 H2 u n2 hp2 r2 => ?_
  have k2 := k1.nxt n2 hp2
  exact hr ap B2 H2 p2 x y v u Q d p' k2.bh hp2 k2.bap (r1.mono n2.bb) r2 e4 fun B' H' w n3 hp3 r3 => q B' H' w ((n1.trans n2).trans n3) hp3 r3
theorem p_bin {op : Operator} {f : D → D → Mo D} (ho : OpD cs X (binaryOp op) f) (ha : PED cs X a ma) (hb : PED cs X b mb) : PED cs X (.BinOp a op b pos) (mBin f ma mb) := by
  obtain ⟨ta, a1, a2⟩ := ha.ex
  obtain ⟨tb, b1, b2⟩ := hb.ex
  obtain ⟨r, h1, h2⟩ := ho
  exact ⟨tOp r ta tb, pe_op h1 a1 b1, bin_ev a2 b2 h2⟩
theorem p_cmp {op : CmpOp} {f : D → D → Mo D} (ho : OpD cs X (compareOp op) f) (ha : PED cs X a ma) (hb : PED cs X b mb) (hm : behindInMarks op b = false) : PED cs X (.Compare a [op] [b] pos) (mBin f ma mb) := by
  obtain ⟨ta, a1, a2⟩ := ha.ex
  obtain ⟨tb, b1, b2⟩ := hb.ex
  obtain ⟨r, h1, h2⟩ := ho
  exact ⟨tOp r ta tb, pe_cmpR h1 a1 b1 hm, bin_ev a2 b2 h2⟩
theorem evT_of {K : PySem.W.Frag} {te : TE} (h : EvE K cs te m) : EvT K cs (tTest te) (mB m) := by
  intro ap H0 B0 B σ env H p Q b p' k hm q
  obtain ⟨x, p1, e1, e2⟩ := bindM_some hm
  cases x <;> first | (cases e2; done) | skip
  cases e2
  refine h ap H0 B0 B σ env H p _ _ p' k e1 fun B1 H1 v n1 hp1 r1 => ?_
  simp only [Rep] at r1
  exact ⟨b, r1, q B1 H1 n1 hp1⟩
theorem pt_cmp {op : CmpOp} {f : D → D → Mo D} (ho : OpD cs X (compareOp op) f) (ha : PED cs X a ma) (hb : PED cs X b mb) (hm : behindInMarks op b = false) : PTD cs X (.Compare a [op] [b] pos) (mB (mBin f ma mb)) := by
  obtain ⟨ta, a1, a2⟩ := ha.ex
  obtain ⟨tb, b1, b2⟩ := hb.ex
  obtain ⟨r, h1, h2⟩ := ho
  exact ⟨_, pt_cmpR h1 a1 b1 hm, evT_of (bin_ev a2 b2 h2)⟩
/-- a call, a name, a subscript, an attribute as a test: a bool -/
theorem pt_v (h : PED cs X e m) (he : ∀ whole, isTrue e X.env whole = (do let v ← whole; standAt e.pos; holding [v] (truthy v)) := by intro _; rfl) : PTD cs X e (mB m) := by
  obtain ⟨te, h1, h2⟩ := h.ex
  exact ⟨_, pt_val h1 he, evT_of h2⟩
theorem pt_not {ma : Env' → Mo Bool} (ha : PTD cs X a ma) : PTD cs X (.UnaryOp .Not a pos) (mNot ma) := by
  obtain ⟨ta, a1, a2⟩ := ha.ex
  refine ⟨_, L2.pt_not a1, fun ap H0 B0 B σ env H p Q b p' k hm q => ?_⟩
  obtain ⟨x, p1, e1, e2⟩ := bindM_some hm
  cases e2
  exact a2 ap H0 B0 B σ env H p _ x p' k e1 fun B1 H1 n1 hp1 => q B1 H1 n1 hp1
theorem and_ev {K : PySem.W.Frag} {t u : TT} {ma mb : Env' → Mo Bool} (ha : EvT K cs t ma) (hb : EvT K cs u mb) : EvT K cs (tAnd t u) (mAnd ma mb) := by
  intro ap H0 B0 B σ env H p Q b p' k hm q
  obtain ⟨x, p1, e1, e2⟩ := bindM_some hm
  refine ha ap H0 B0 B σ env H p _ x p1 k e1 fun B1 H1 n1 hp1 => ?_
  cases x with
  | true =>
    rw [if_pos rfl] at e2 ⊢
    exact hb ap H0 B0 B1 σ env H1 p1 _ b p' (k.nxt n1 hp1) e2 fun B2 H2 n2 hp2 => q B2 H2 (n1.trans n2) hp2
  | false =>
    rw [if_neg (by decide)] at e2 ⊢
    cases e2
    exact q B1 H1 n1 hp1
theorem or_ev {K : PySem.W.Frag} {t u : TT} {ma mb : Env' → Mo Bool} (ha : EvT K cs t ma) (hb : EvT K cs u mb) : EvT K cs (tOr t u) (mOr ma mb) := by
  intro ap H0 B0 B σ env H p Q b p' k hm q
  obtain ⟨x, p1, e1, e2⟩ := bindM_some hm
  refine ha ap H0 B0 B σ env H p _ x p1 k e1 fun B1 H1 n1 hp1 => ?_
  cases x with
  | true =>
    rw [if_pos rfl] at e2 ⊢
    cases e2
    exact q B1 H1 n1 hp1
  | false =>
    rw [if_neg (by decide)] at e2 ⊢
    exact hb ap H0 B0 B1 σ env H1 p1 _ b p' (k.nxt n1 hp1) e2 fun B2 H2 n2 hp2 => q B2 H2 (n1.trans n2) hp2
theorem pw_one {op} {ma : Env' → Mo Bool} (ha : PTD cs X a ma) (ho : op = .And ∨ op = .Or := by first | exact .inl rfl | exact .inr rfl) : PWD cs X (.BoolOp op [a] pos) ma := by
  obtain ⟨ta, a1, a2⟩ := ha.ex
  rcases ho with rfl | rfl
  · exact ⟨_, pw_and1 a1, a2⟩
  · exact ⟨_, pw_or1 a1, a2⟩
theorem pw_and {ma mb : Env' → Mo Bool} (ha : PTD cs X a ma) (hb : PWD cs X (.BoolOp .And (b :: es) pos) mb) : PWD cs X (.BoolOp .And (a :: b :: es) pos) (mAnd ma mb) := by
  obtain ⟨ta, a1, a2⟩ := ha.ex
  obtain ⟨tb, b1, b2⟩ := hb.ex
  exact ⟨_, L2.pw_and a1 b1, and_ev a2 b2⟩
theorem pw_or {ma mb : Env' → Mo Bool} (ha : PTD cs X a ma) (hb : PWD cs X (.BoolOp .Or (b :: es) pos) mb) : PWD cs X (.BoolOp .Or (a :: b :: es) pos) (mOr ma mb) := by
  obtain ⟨ta, a1, a2⟩ := ha.ex
  obtain ⟨tb, b1, b2⟩ := hb.ex
  exact ⟨_, L2.pw_or a1 b1, or_ev a2 b2⟩
theorem PWD.pt {ma : Env' → Mo Bool} (h : PWD cs X a ma) : PTD cs X a ma := by
  obtain ⟨ta, a1, a2⟩ := h.ex
  exact ⟨ta, a1.pt, a2⟩
/-- and, or, not as values: bools -/
theorem p_one {op} (ha : PED cs X a ma) : PED cs X (.BoolOp op [a] pos) ma := by
  obtain ⟨ta, a1, a2⟩ := ha.ex
  exact ⟨ta, pe_one a1, a2⟩
theorem andV_ev {K : PySem.W.Frag} {ta tb : TE} (ha : EvE K cs ta ma) (hb : EvE K cs tb mb) : EvE K cs (tAndV ta tb) (mTV (mAnd (mB ma) (mB mb))) := by
  intro ap H0 B0 B σ env H p Q d p' k hm q
  obtain ⟨x, p1, e1, e2⟩ := bindM_some hm
  cases e2
  obtain ⟨y, p2, e3, e4⟩ := bindM_some e1
  obtain ⟨z, p3, e5, e6⟩ := bindM_some e3
  cases z <;> first | (cases e6; done) | skip
  cases e6
  refine ha ap H0 B0 B σ env H p _ _ p2 k e5 fun B1 H1 v n1 hp1 r1 => ?_
  simp only [Rep] at r1
  refine ⟨y, r1, ?_⟩
  cases y with
  | true =>
    rw [if_pos rfl] at e4 ⊢
    obtain ⟨z, p3, e5, e6⟩ := bindM_some e4
    cases z <;> first | (cases e6; done) | skip
    cases e6
    exact hb ap H0 B0 B1 σ env H1 p2 _ _ p' (k.nxt n1 hp1) e5 fun B2 H2 v n2 hp2 r2 => q B2 H2 v (n1.trans n2) hp2 r2
  | false =>
    rw [if_neg (by decide)] at e4 ⊢
    cases e4
    exact q B1 H1 _ n1 hp1 (by simp only [Rep])
theorem orV_ev {K : PySem.W.Frag} {ta tb : TE} (ha : EvE K cs ta ma) (hb : EvE K cs tb mb) : EvE K cs (tOrV ta tb) (mTV (mOr (mB ma) (mB mb))) := by
  intro ap H0 B0 B σ env H p Q d p' k hm q
  obtain ⟨x, p1, e1, e2⟩ := bindM_some hm
  cases e2
  obtain ⟨y, p2, e3, e4⟩ := bindM_some e1
  obtain ⟨z, p3, e5, e6⟩ := bindM_some e3
  cases z <;> first | (cases e6; done) | skip
  cases e6
  refine ha ap H0 B0 B σ env H p _ _ p2 k e5 fun B1 H1 v n1 hp1 r1 => ?_
  simp only [Rep] at r1
  refine ⟨y, r1, ?_⟩
  cases y with
  | true =>
    rw [if_pos rfl] at e4 ⊢
    cases e4
    exact q B1 H1 _ n1 hp1 (by simp only [Rep])
  | false =>
    rw [if_neg (by decide)] at e4 ⊢
    obtain ⟨z, p3, e5, e6⟩ := bindM_some e4
    cases z <;> first | (cases e6; done) | skip
    cases e6
    exact hb ap H0 B0 B1 σ env H1 p2 _ _ p' (k.nxt n1 hp1) e5 fun B2 H2 v n2 hp2 r2 => q B2 H2 v (n1.trans n2) hp2 r2
theorem p_and (ha : PED cs X a ma) (hb : PED cs X (.BoolOp .And (b :: es) pos) mb) : PED cs X (.BoolOp .And (a :: b :: es) pos) (mTV (mAnd (mB ma) (mB mb))) := by
  obtain ⟨ta, a1, a2⟩ := ha.ex
  obtain ⟨tb, b1, b2⟩ := hb.ex
  exact ⟨_, pe_and a1 b1, andV_ev a2 b2⟩
theorem p_or (ha : PED cs X a ma) (hb : PED cs X (.BoolOp .Or (b :: es) pos) mb) : PED cs X (.BoolOp .Or (a :: b :: es) pos) (mTV (mOr (mB ma) (mB mb))) := by
  obtain ⟨ta, a1, a2⟩ := ha.ex
  obtain ⟨tb, b1, b2⟩ := hb.ex
  exact ⟨_, pe_or a1 b1, orV_ev a2 b2⟩
theorem p_not (ha : PED cs X a ma) : PED cs X (.UnaryOp .Not a pos) (mTV (mNot (mB ma))) := by
  obtain ⟨ta, a1, a2⟩ := ha.ex
  refine ⟨_, pe_not a1, fun ap H0 B0 B σ env H p Q d p' k hm q => ?_⟩
  obtain ⟨x, p1, e1, e2⟩ := bindM_some hm
  cases e2
  obtain ⟨y, p2, e3, e4⟩ := bindM_some e1
  cases e4
  obtain ⟨z, p3, e5, e6⟩ := bindM_some e3
  cases z <;> first | (cases e6; done) | skip
  cases e6
  refine a2 ap H0 B0 B σ env H p _ _ p' k e5 fun B1 H1 v n1 hp1 r1 => ?_
  simp only [Rep] at r1
  exact ⟨y, r1, q B1 H1 _ n1 hp1 (by simp only [Rep])⟩
theorem if_ev {K : PySem.W.Frag} {t : TT} {ta tb : TE} {mc : Env' → Mo Bool} (hc : EvT K cs t mc) (ha : EvE K cs ta ma) (hb : EvE K cs tb mb) : EvE K cs (tIf t ta tb) (mIf mc ma mb) := by
  intro ap H0 B0 B σ env H p Q d p' k hm q
  obtain ⟨x, p1, e1, e2⟩ := bindM_some hm
  refine hc ap H0 B0 B σ env H p _ x p1 k e1 fun B1 H1 n1 hp1 => ?_
  have k1 := k.nxt n1 hp1
  cases x with
  | true =>
    rw [if_pos rfl] at e2 ⊢
    exact ha ap H0 B0 B1 σ env H1 p1 _ d p' k1 e2 fun B2 H2 v n2 hp2 r2 => q B2 H2 v (n1.trans n2) hp2 r2
  | false =>
    rw [if_neg (by decide)] at e2 ⊢
    exact hb ap H0 B0 B1 σ env H1 p1 _ d p' k1 e2 fun B2 H2 v n2 hp2 r2 => q B2 H2 v (n1.trans n2) hp2 r2
theorem p_if {mc : Env' → Mo Bool} (hc : PTD cs X c mc) (ha : PED cs X a ma) (hb : PED cs X b mb) : PED cs X (.IfExp c a b pos) (mIf mc ma mb) := by
  obtain ⟨tc, c1, c2⟩ := hc.ex
  obtain ⟨ta, a1, a2⟩ := ha.ex
  obtain ⟨tb, b1, b2⟩ := hb.ex
  exact ⟨_, pe_ifExp c1 a1 b1, if_ev c2 a2 b2⟩
/-! ### arguments, displays -/
theorem pa_nil : PAD cs X [] mNil := by
  refine ⟨tNil, L2.pa_nil, fun ap H0 B0 B σ env H p Q d p' k hm q => ?_⟩
  cases hm
  exact q B H [] (Nxt.refl k.bh) k.pot reps_nil
theorem pa_cons {mr : Env' → Mo (List D)} (ha : PED cs X e m) (hr : PAD cs X es mr) (hs : starEach (e :: es) X.env = (false, eval e X.env) :: starEach es X.env := by rfl) : PAD cs X (e :: es) (mCons m mr) := by
  obtain ⟨ta, a1, a2⟩ := ha.ex
  obtain ⟨tr, r1, r2⟩ := hr.ex
  refine ⟨_, L2.pa_cons a1 r1 hs, fun ap H0 B0 B σ env H p Q d p' k hm q => ?_⟩
  obtain ⟨x, p1, e1, e2⟩ := bindM_some hm
  obtain ⟨xs, p2, e3, e4⟩ := bindM_some e2
  cases e4
  refine a2 ap H0 B0 B σ env H p _ x p1 k e1 fun B1 H1 v n1 hp1 g1 => ?_
  have k1 := k.nxt n1 hp1
  exact r2 ap H0 B0 B1 σ env H1 p1 _ xs p' k1 e3 fun B2 H2 vs n2 hp2 g2 => q B2 H2 (v :: vs) (n1.trans n2) hp2 (reps_cons (g1.mono n2.bb) g2)
theorem sz100 {n : Nat} (h : n ≤ 100000) : n ≤ sizeLine := Nat.le_trans h (by rw [sizeLine_eq]; decide)
theorem p_tup {x1} {mr : Env' → Mo (List D)} (h : PAD cs X es mr) : PED cs X (.Tuple es x1 pos) (mTup mr) := by
  obtain ⟨ta, a1, a2⟩ := h.ex
  refine ⟨_, pe_tup a1, fun ap H0 B0 B σ env H p Q d p' k hm q => ?_⟩
  obtain ⟨x, p1, e1, e2⟩ := bindM_some hm
  split at e2
  · rename_i hl
    cases e2
    refine a2 ap H0 B0 B σ env H p _ x p' k e1 fun B1 H1 vs n1 hp1 g1 => ⟨sz100 (by rw [g1.length]; exact hl), fun t ht => ?_⟩
    have n2 : Nxt ap B1 H1 (upd B1 t (.tup vs)) (upd H1 t (.tup vs)) := Nxt.new n1.bh ht
    exact q _ _ _ (n1.trans n2) (hp1.new ht) (by simp only [Rep]; exact ⟨t, vs, rfl, SqT.of upd_same, g1.mono n2.bb⟩)
  · cases e2
theorem o_lst {mr : Env' → Mo (List D)} (h : PAD cs X es mr) : POD cs X (.List es pos) (mNew mr) := by
  obtain ⟨ta, a1, a2⟩ := h.ex
  refine ⟨_, pe_lst a1, fun ap H0 B0 B σ env H p Q d p' k hm q => ?_⟩
  obtain ⟨x, p1, e1, e2⟩ := bindM_some hm
  split at e2
  · rename_i hl
    cases e2
    refine a2 ap H0 B0 B σ env H p _ _ p' k e1 fun B1 H1 vs n1 hp1 g1 => ⟨sz100 (by rw [g1.length]; exact hl), fun t ht => ?_⟩
    have ht0 : H t = none := by
      cases z : H t with
      | none => rfl
      | some o => exact absurd ht (n1.nn t (by rw [z]; exact fun y => nomatch y))
    have n2 : Nxt ap B1 H1 B1 (upd H1 t (.lst vs)) := Nxt.newU n1.bh ht
    exact q _ _ t vs (n1.trans n2) (hp1.new ht) ht0 (Evl.fresh_back n1.bh ht) upd_same g1
  · cases e2
end
end DL
end

section
set_option Elab.async false
set_option linter.all false
set_option maxRecDepth 100000
set_option maxHeartbeats 4000000
/-! DL: statements, targets, loops. -/
namespace DL
open PySem PySem.Spec PyProof.Rows L2
open Evl (Ex)

theorem Ok.setv' {K : PySem.W.Frag} {cs : CT} {ap : Addr} {H0 B0 B H : Hp} {σ : L2.St} {env : Env'} {p : Pt} (k : Ok K cs ap H0 B0 B σ env H p) {i : Nat} {d : D} {v : V} (r : Rep K cs ap B d v) : Ok K cs ap H0 B0 B (σ.set i (some v)) (env.set i (.val d)) H p := by
  by_cases hi : i < env.length
  · exact k.setv hi r
  · have h1 : env.length ≤ i := by omega
    have h2 : σ.length ≤ i := by rw [k.len]; exact h1
    rw [List.set_eq_of_length_le h1, List.set_eq_of_length_le h2]; exact k

/-- how a statement ends -/
inductive Out where
  | nx | bk | ct | rt (d : D) | ro (ds : List D)
abbrev MS := Env' → Mo (Out × Env')

def KS (K : PySem.W.Frag) (cs : CT) (ap : Addr) (H0 B0 B : Hp) (o : Out) (env' : Env') (p' : Pt) (E : Ends) : Prop := match o with
  | .nx => ∀ B' σ' H', Ex B B' → Ok K cs ap H0 B0 B' σ' env' H' p' → E.nx σ' H'
  | .bk => ∀ B' σ' H', Ex B B' → Ok K cs ap H0 B0 B' σ' env' H' p' → E.bk σ' H'
  | .ct => ∀ B' σ' H', Ex B B' → Ok K cs ap H0 B0 B' σ' env' H' p' → E.ct σ' H'
  | .rt d => ∀ B' H' v, Nxt ap B0 H0 B' H' → PotAt ap H' p' → Rep K cs ap B' d v → E.rt v H'
  | .ro ds => ∀ B' H' a xs, Nxt ap B0 H0 B' H' → PotAt ap H' p' → H0 a = none → B' a = none → H' a = some (.lst xs) → Reps K cs ap B' ds xs → E.rt (.ref a) H'
theorem KS.mono {K : PySem.W.Frag} {cs : CT} {ap : Addr} {H0 B0 B B1 : Hp} {o : Out} {env' : Env'} {p' : Pt} {E : Ends} (k : KS K cs ap H0 B0 B o env' p' E) (e : Ex B B1) : KS K cs ap H0 B0 B1 o env' p' E := by
  cases o with
  | nx => exact fun B' σ' H' z => k B' σ' H' (e.trans z)
  | bk => exact fun B' σ' H' z => k B' σ' H' (e.trans z)
  | ct => exact fun B' σ' H' z => k B' σ' H' (e.trans z)
  | rt d => exact k
  | ro d => exact k
def EvS (K : PySem.W.Frag) (cs : CT) (ts : TS) (m : MS) : Prop := ∀ ap H0 B0 B σ env H p (E : Ends) o env' p', Ok K cs ap H0 B0 B σ env H p → m env p = some ((o, env'), p') → KS K cs ap H0 B0 B o env' p' E → ts E σ H
structure PSD (cs : CT) (X : Cx) (st : Stmt) (m : MS) : Prop where
  ex : ∃ ts, PS X st ts ∧ EvS X.K cs ts m
structure PSsD (cs : CT) (X : Cx) (sts : List Stmt) (m : MS) : Prop where
  ex : ∃ ts, PSs X sts ts ∧ EvS X.K cs ts m

/-! ### targets -/
abbrev MG := D → Env' → Option Env'
abbrev MGs := List D → Env' → Option Env'
/-- the slots agree but at sl -/
def Agr (sl : List Nat) (σ σ' : L2.St) : Prop := σ'.length = σ.length ∧ ∀ j, j ∉ sl → σ'[j]? = σ[j]?
theorem Agr.refl {sl : List Nat} {σ : L2.St} : Agr sl σ σ := ⟨rfl, fun _ _ => rfl⟩
theorem Agr.trans {s1 s2 : List Nat} {σ σ1 σ2 : L2.St} (a : Agr s1 σ σ1) (b : Agr s2 σ1 σ2) : Agr (s1 ++ s2) σ σ2 :=
  ⟨b.1.trans a.1, fun j hj => (b.2 j fun z => hj (List.mem_append_right _ z)).trans (a.2 j fun z => hj (List.mem_append_left _ z))⟩
theorem Agr.set {i : Nat} {σ : L2.St} {v : Option V} : Agr [i] σ (σ.set i v) := ⟨List.length_set, fun j hj => List.getElem?_set_ne (fun z => hj (by rw [z]; exact List.mem_singleton.mpr rfl))⟩
def EvG (K : PySem.W.Frag) (cs : CT) (g : TG) (sl : List Nat) (m : MG) : Prop := ∀ ap H0 B0 B σ env H p (Q : L2.St → Hp → Prop) d v env', Ok K cs ap H0 B0 B σ env H p → Rep K cs ap B d v → m d env = some env' → (∀ σ', Ok K cs ap H0 B0 B σ' env' H p → Agr sl σ σ' → Q σ' H) → g v σ H Q
def EvGs (K : PySem.W.Frag) (cs : CT) (g : TGs) (sl : List Nat) (m : MGs) : Prop := ∀ ap H0 B0 B σ env H p (Q : L2.St → Hp → Prop) ds vs env', Ok K cs ap H0 B0 B σ env H p → Reps K cs ap B ds vs → m ds env = some env' → (∀ σ', Ok K cs ap H0 B0 B σ' env' H p → Agr sl σ σ' → Q σ' H) → g vs σ H Q
structure PGD (cs : CT) (X : Cx) (tg : Expr) (sl : List Nat) (m : MG) : Prop where
  ex : ∃ g, PG X tg g ∧ EvG X.K cs g sl m
structure PGsD (cs : CT) (X : Cx) (tgs : List Expr) (sl : List Nat) (m : MGs) : Prop where
  ex : ∃ g, PGs X tgs g ∧ EvGs X.K cs g sl m
def tgN (i : Nat) : MG := fun d env => some (env.set i (.val d))
def tgNil : MGs := fun ds env => match ds with
  | [] => some env
  | _ => none
def tgCons (a : MG) (b : MGs) : MGs := fun ds env => match ds with
  | d :: r => match a d env with
    | some env1 => b r env1
    | none => none
  | [] => none
def tgTup (n : Nat) (b : MGs) : MG := fun d env => match d with
  | .tup ds => if ds.length = n then b ds env else none
  | _ => none

/-! ### denotations of statements -/
def mNx : MS := fun env => retM (.nx, env)
def mBk : MS := fun env => retM (.bk, env)
def mCt : MS := fun env => retM (.ct, env)
def mNever : MS := fun _ => failM
def mSeq (a b : MS) : MS := fun env => bindM (a env) fun r => match r.1 with
  | .nx => b r.2
  | o => retM (o, r.2)
def mSet (i : Nat) (m : Env' → Mo D) : MS := fun env => bindM (m env) fun d => retM (.nx, env.set i (.val d))
def mSetO (i : Nat) (m : Env' → Mo (List D)) : MS := fun env => bindM (m env) fun ds => if i < env.length then retM (.nx, env.set i (.own ds)) else failM
def mAsg (g : MG) (m : Env' → Mo D) : MS := fun env => bindM (m env) fun d => match g d env with
  | some env' => retM (.nx, env')
  | none => failM
def mRet (m : Env' → Mo D) : MS := fun env => bindM (m env) fun d => retM (.rt d, env)
/-- return of a new list that nothing else knows -/
def mRetO (m : Env' → Mo (List D)) : MS := fun env => bindM (m env) fun ds => retM (.ro ds, env)
/-- return of an own list -/
def mRetX (i : Nat) : MS := fun env => match env[i]? with
  | some (.own ds) => retM (.ro ds, env)
  | _ => failM
def mRetN : MS := fun env => retM (.rt .non, env)
def mDrop (m : Env' → Mo D) : MS := fun env => bindM (m env) fun _ => retM (.nx, env)
def mIfS (c : Env' → Mo Bool) (a b : MS) : MS := fun env => bindM (c env) fun x => if x = true then a env else b env
def mFreeze (i : Nat) (m : MS) : MS := fun env => match env[i]? with
  | some (.own ds) => m (env.set i (.val (.lst ds)))
  | _ => failM
def mForget (i : Nat) (m : MS) : MS := fun env => m (env.set i .un)
def loopM (body : D → MS) : List D → MS
  | [] => fun env => retM (.nx, env)
  | d :: ds => fun env => bindM (body d env) fun r => match r.1 with
    | .nx => loopM body ds r.2
    | .ct => loopM body ds r.2
    | .bk => retM (.nx, r.2)
    | .rt v => retM (.rt v, r.2)
    | .ro v => retM (.ro v, r.2)
def mTg (g : MG) (body : MS) : D → MS := fun d env => match g d env with
  | some env' => body env'
  | none => failM
def mFor (src : Env' → Mo (List D)) (g : MG) (body : MS) : MS := fun env => bindM (src env) fun ds => loopM (mTg g body) ds env
def whileM (c : Env' → Mo Bool) (body : MS) : Nat → MS
  | 0 => fun _ => failM
  | n + 1 => fun env => bindM (c env) fun b => if b = true then bindM (body env) fun r => match r.1 with
      | .nx => whileM c body n r.2
      | .ct => whileM c body n r.2
      | .bk => retM (.nx, r.2)
      | .rt v => retM (.rt v, r.2)
      | .ro v => retM (.ro v, r.2)
    else retM (.nx, env)
/-- more turns than any while of ours takes -/
def fuelW : Nat := 2000000
def mWhile (c : Env' → Mo Bool) (body : MS) : MS := fun env => whileM c body fuelW env

section
variable {cs : CT} {X : Cx} {e : Expr} {st : Stmt} {sts : List Stmt} {m : Env' → Mo D} {ms mt : MS} {pos : Pos}
theorem ss_nil : PSsD cs X [] mNx := by
  refine ⟨_, pss_nil, fun ap H0 B0 B σ env H p E o env' p' k hm q => ?_⟩
  cases hm
  exact q B σ H (Ex.refl _) k
theorem seq_ev {K : PySem.W.Frag} {t u : TS} (h1 : EvS K cs t ms) (h2 : EvS K cs u mt) : EvS K cs (tSeq t u) (mSeq ms mt) := by
  intro ap H0 B0 B σ env H p E o env' p' k hm q
  obtain ⟨⟨o1, env1⟩, p1, e1, e2⟩ := bindM_some hm
  refine h1 ap H0 B0 B σ env H p _ o1 env1 p1 k e1 ?_
  cases o1 with
  | nx => exact fun B' σ' H' ex k' => h2 ap H0 B0 B' σ' env1 H' p1 E o env' p' k' e2 (q.mono ex)
  | bk => cases e2; exact q
  | ct => cases e2; exact q
  | rt d => cases e2; exact q
  | ro d => cases e2; exact q
theorem ss_cons (h1 : PSD cs X st ms) (h2 : PSsD cs X sts mt) : PSsD cs X (st :: sts) (mSeq ms mt) := by
  obtain ⟨t, a1, a2⟩ := h1.ex
  obtain ⟨u, b1, b2⟩ := h2.ex
  exact ⟨_, pss_cons a1 b1, seq_ev a2 b2⟩
theorem ss_one (h1 : PSD cs X st ms) : PSsD cs X [st] ms := by
  obtain ⟨t, a1, a2⟩ := h1.ex
  exact ⟨_, pss_one a1, a2⟩
theorem ss_freeze (i : Nat) (h : PSsD cs X sts ms) : PSsD cs X sts (mFreeze i ms) := by
  obtain ⟨t, a1, a2⟩ := h.ex
  refine ⟨_, a1, fun ap H0 B0 B σ env H p E o env' p' k hm q => ?_⟩
  unfold mFreeze at hm
  rcases g : env[i]? with _ | _ | _ | ds | _
  · rw [g] at hm; cases hm
  · rw [g] at hm; cases hm
  · rw [g] at hm; cases hm
  · rw [g] at hm
    obtain ⟨B', ex, k'⟩ := k.freeze g
    exact a2 ap H0 B0 B' σ _ H p E o env' p' k' hm (q.mono ex)
  · rw [g] at hm; cases hm
theorem ss_forget (i : Nat) (h : PSsD cs X sts ms) : PSsD cs X sts (mForget i ms) := by
  obtain ⟨t, a1, a2⟩ := h.ex
  exact ⟨_, a1, fun ap H0 B0 B σ env H p E o env' p' k hm q => a2 ap H0 B0 B σ _ H p E o env' p' k.drop hm q⟩
theorem s_pass : PSD cs X (.Pass pos) mNx := ⟨_, ps_pass, fun ap H0 B0 B σ env H p E o env' p' k hm q => by cases hm; exact q B σ H (Ex.refl _) k⟩
theorem s_break : PSD cs X (.Break pos) mBk := ⟨_, ps_break, fun ap H0 B0 B σ env H p E o env' p' k hm q => by cases hm; exact q B σ H (Ex.refl _) k⟩
theorem s_continue : PSD cs X (.Continue pos) mCt := ⟨_, ps_continue, fun ap H0 B0 B σ env H p E o env' p' k hm q => by cases hm; exact q B σ H (Ex.refl _) k⟩
theorem s_never : PSD cs X st mNever := ⟨_, ps_never, fun ap H0 B0 B σ env H p E o env' p' k hm q => by cases hm⟩
theorem s_expr (h : PED cs X e m) (hs : swapsWith e none pos.line X.env = pure false := by rfl) : PSD cs X (.Expr e pos) (mDrop m) := by
  obtain ⟨t, a1, a2⟩ := h.ex
  refine ⟨_, ps_expr a1 hs, fun ap H0 B0 B σ env H p E o env' p' k hm q => ?_⟩
  obtain ⟨d, p1, e1, e2⟩ := bindM_some hm
  cases e2
  exact a2 ap H0 B0 B σ env H p _ d p' k e1 fun B' H' v n hp r => q B' σ H' n.bb (k.nxt n hp)
theorem s_ret (h : PED cs X e m) : PSD cs X (.Return (some e) pos) (mRet m) := by
  obtain ⟨t, a1, a2⟩ := h.ex
  refine ⟨_, ps_ret a1, fun ap H0 B0 B σ env H p E o env' p' k hm q => ?_⟩
  obtain ⟨d, p1, e1, e2⟩ := bindM_some hm
  cases e2
  exact a2 ap H0 B0 B σ env H p _ d p' k e1 fun B' H' v n hp r => q B' H' v (k.st.trans n) hp r
theorem s_retO {m : Env' → Mo (List D)} (h : POD cs X e m) : PSD cs X (.Return (some e) pos) (mRetO m) := by
  obtain ⟨t, a1, a2⟩ := h.ex
  refine ⟨_, ps_ret a1, fun ap H0 B0 B σ env H p E o env' p' k hm q => ?_⟩
  obtain ⟨d, p1, e1, e2⟩ := bindM_some hm
  cases e2
  refine a2 ap H0 B0 B σ env H p _ d p' k e1 fun B' H' a xs n hp hn hb hh r => q B' H' a xs (k.st.trans n) hp ?_ hb hh r
  cases z : H0 a with
  | none => rfl
  | some o => exact absurd hn (k.st.nn a (by rw [z]; exact fun y => nomatch y))
theorem s_retX (i : Nat) {x : Str} {p1 : Pos} (hN : X.N[i]? = some x := by rfl) (hv : Vis X.env.scope x := by first | exact Or.inl rfl | exact Or.inr (Or.inl rfl) | exact Or.inr (Or.inr rfl)) (hd : (x == ("__debug__" : Str)) = false := by decide)
    (hcd : (x == ("__classdict__" : Str)) = false := by decide) : PSD cs X (.Return (some (.Name x p1)) pos) (mRetX i) := by
  refine ⟨_, ps_ret (pe_var hN hv hd hcd), fun ap H0 B0 B σ env H p E o env' p' k hm q => ?_⟩
  unfold mRetX at hm
  rcases g : env[i]? with _ | _ | _ | ds | _
  · rw [g] at hm; cases hm
  · rw [g] at hm; cases hm
  · rw [g] at hm; cases hm
  · rw [g] at hm
    cases hm
    obtain ⟨a, xs, g1, g2, g3, g4⟩ := k.sl i _ g
    exact ⟨.ref a, g1, q B H a xs k.st k.pot (k.ownNew i ds a g g1) g2 g3 g4⟩
  · rw [g] at hm; cases hm
theorem s_retN : PSD cs X (.Return none pos) mRetN := ⟨_, ps_retN, fun ap H0 B0 B σ env H p E o env' p' k hm q => by cases hm; exact q B H .non k.st k.pot (by simp only [Rep])⟩
theorem s_if {c : Expr} {a b : List Stmt} {mc : Env' → Mo Bool} {ma mb : MS} (hc : PTD cs X c mc) (ha : PSsD cs X a ma) (hb : PSsD cs X b mb) : PSD cs X (.If c a b pos) (mIfS mc ma mb) := by
  obtain ⟨tc, c1, c2⟩ := hc.ex
  obtain ⟨ta, a1, a2⟩ := ha.ex
  obtain ⟨tb, b1, b2⟩ := hb.ex
  refine ⟨_, ps_if c1 a1 b1, fun ap H0 B0 B σ env H p E o env' p' k hm q => ?_⟩
  obtain ⟨x, p1, e1, e2⟩ := bindM_some hm
  refine c2 ap H0 B0 B σ env H p _ x p1 k e1 fun B1 H1 n1 hp1 => ?_
  cases x with
  | true =>
    rw [if_pos rfl] at e2 ⊢
    exact a2 ap H0 B0 B1 σ env H1 p1 E o env' p' (k.nxt n1 hp1) e2 (q.mono n1.bb)
  | false =>
    rw [if_neg (by decide)] at e2 ⊢
    exact b2 ap H0 B0 B1 σ env H1 p1 E o env' p' (k.nxt n1 hp1) e2 (q.mono n1.bb)
/-- name = datum -/
theorem set_ev {K : PySem.W.Frag} {te : TE} {i : Nat} (h : EvE K cs te m) : EvS K cs (tAsg te (gName i)) (mSet i m) := by
  intro ap H0 B0 B σ env H p E o env' p' k hm q
  obtain ⟨d, p1, e1, e2⟩ := bindM_some hm
  cases e2
  exact h ap H0 B0 B σ env H p _ d p' k e1 fun B' H' v n hp r => q B' _ H' n.bb ((k.nxt n hp).setv' r)
theorem s_set (i : Nat) {x : Str} {pos' : Pos} (hN : X.N.Nodup) (h : PED cs X e m) (hi : X.N[i]? = some x := by rfl) (hx : Loc X.env.scope x := by first | exact Or.inl rfl | exact Or.inr rfl) (hs : swapsWith e (some (.Name x pos')) pos.line X.env = pure false := by rfl)
    (hf : X.fn x = true ∨ X.env.scope.names.lookup x = some .local := by first | exact .inl rfl | exact .inr rfl) : PSD cs X (.Assign [.Name x pos'] e pos) (mSet i m) := by
  obtain ⟨t, a1, a2⟩ := h.ex
  exact ⟨_, ps_set hN hi hx a1 hs hf, set_ev a2⟩
/-- name = a new list, which stays the def's own -/
theorem setO_ev {K : PySem.W.Frag} {te : TE} {i : Nat} {m : Env' → Mo (List D)} (h : EvO K cs te m) : EvS K cs (tAsg te (gName i)) (mSetO i m) := by
  intro ap H0 B0 B σ env H p E o env' p' k hm q
  obtain ⟨ds, p1, e1, e2⟩ := bindM_some hm
  split at e2
  · rename_i hi
    cases e2
    refine h ap H0 B0 B σ env H p _ ds p' k e1 fun B' H' a xs n hp hn hb hh r => ?_
    have h0 : H0 a = none := by
      cases z : H0 a with
      | none => rfl
      | some o => exact absurd hn (k.st.nn a (by rw [z]; exact fun y => nomatch y))
    refine q B' _ H' n.bb ((k.nxt n hp).seto hi hb hh r h0 fun j es hj hj' g => ?_)
    obtain ⟨b, ys, g1, g2, g3, g4⟩ := k.sl j _ hj'
    rw [g] at g1
    cases g1
    rw [hn] at g3
    cases g3
  · cases e2
theorem s_setO (i : Nat) {x : Str} {pos' : Pos} {m : Env' → Mo (List D)} (hN : X.N.Nodup) (h : POD cs X e m) (hi : X.N[i]? = some x := by rfl) (hx : Loc X.env.scope x := by first | exact Or.inl rfl | exact Or.inr rfl) (hs : swapsWith e (some (.Name x pos')) pos.line X.env = pure false := by rfl)
    (hf : X.fn x = true ∨ X.env.scope.names.lookup x = some .local := by first | exact .inl rfl | exact .inr rfl) : PSD cs X (.Assign [.Name x pos'] e pos) (mSetO i m) := by
  obtain ⟨t, a1, a2⟩ := h.ex
  exact ⟨_, ps_set hN hi hx a1 hs hf, setO_ev a2⟩
/-! ### targets -/
theorem g_name (i : Nat) {x : Str} (hN : X.N.Nodup) (hi : X.N[i]? = some x := by rfl) (hx : Loc X.env.scope x := by first | exact Or.inl rfl | exact Or.inr rfl)
    (hf : X.fn x = true ∨ X.env.scope.names.lookup x = some .local := by first | exact .inl rfl | exact .inr rfl) : PGD cs X (.Name x pos) [i] (tgN i) :=
  ⟨_, pg_name hN hi hx hf, fun ap H0 B0 B σ env H p Q d v env' k r hm q => by cases hm; exact q _ (k.setv' r) Agr.set⟩
theorem gs_nil : PGsD cs X [] [] tgNil := by
  refine ⟨_, pgs_nil, fun ap H0 B0 B σ env H p Q ds vs env' k r hm q => ?_⟩
  cases ds with
  | nil =>
    simp only [Reps] at r
    cases hm
    exact ⟨r, q σ k Agr.refl⟩
  | cons d ds => cases hm
theorem gs_cons {tg : Expr} {tgs : List Expr} {a : MG} {b : MGs} {s1 s2 : List Nat} (h1 : PGD cs X tg s1 a) (h2 : PGsD cs X tgs s2 b) (hs : (assignEach (tg :: tgs) X.env).map (·.2) = assign tg X.env :: (assignEach tgs X.env).map (·.2) := by rfl) : PGsD cs X (tg :: tgs) (s1 ++ s2) (tgCons a b) := by
  obtain ⟨t, a1, a2⟩ := h1.ex
  obtain ⟨u, b1, b2⟩ := h2.ex
  refine ⟨_, pgs_cons a1 b1 hs, fun ap H0 B0 B σ env H p Q ds vs env' k r hm q => ?_⟩
  cases ds with
  | nil => cases hm
  | cons d ds =>
    simp only [Reps] at r
    obtain ⟨x, xs, rfl, r1, r2⟩ := r
    unfold tgCons at hm
    dsimp only at hm
    split at hm
    · rename_i env1 he
      exact ⟨x, xs, rfl, a2 ap H0 B0 B σ env H p _ d x env1 k r1 he fun σ' k' g1 => b2 ap H0 B0 B σ' env1 H p _ ds xs env' k' r2 hm fun σ2 k2 g2 => q σ2 k2 (g1.trans g2)⟩
    · cases hm
theorem tup_ev {K : PySem.W.Frag} {n : Nat} {g : TGs} {b : MGs} {sl : List Nat} (h : EvGs K cs g sl b) : EvG K cs (gTup K n g) sl (tgTup n b) := by
  intro ap H0 B0 B σ env H p Q d v env' k r hm q
  unfold tgTup at hm
  split at hm
  · split at hm
    · rename_i ds hl
      simp only [Rep] at r
      obtain ⟨a, xs, rfl, h1, h2⟩ := r
      exact ⟨a, xs, rfl, Evl.ex_t k.bh h1, by rw [h2.length]; exact hl, h ap H0 B0 B σ env H p Q ds xs env' k h2 hm q⟩
    · cases hm
  · cases hm
theorem g_tup {es : List Expr} {kk n : Nat} {b : MGs} {sl : List Nat} (hc : X.calm = true) (h : PGsD cs X es sl b) (hn : (assignEach es X.env).length = n := by rfl) (hst : (assignEach es X.env).findIdx? (·.1) = none := by rfl) : PGD cs X (.Tuple es kk pos) sl (tgTup n b) := by
  obtain ⟨t, a1, a2⟩ := h.ex
  exact ⟨_, pg_tup hc a1 hn hst, tup_ev a2⟩
theorem asg_ev {K : PySem.W.Frag} {te : TE} {g : TG} {mg : MG} {sl : List Nat} (h : EvE K cs te m) (hg : EvG K cs g sl mg) : EvS K cs (tAsg te g) (mAsg mg m) := by
  intro ap H0 B0 B σ env H p E o env' p' k hm q
  obtain ⟨d, p1, e1, e2⟩ := bindM_some hm
  rcases he : mg d env with _ | env1
  · rw [he] at e2; cases e2
  · rw [he] at e2
    cases e2
    exact h ap H0 B0 B σ env H p _ d p' k e1 fun B' H' v n hp r => hg ap H0 B0 B' σ env H' p' _ d v env' (k.nxt n hp) r he fun σ' k' _ => q B' σ' H' n.bb k'
/-- a, b = a tuple -/
theorem s_asg {tg : Expr} {mg : MG} {sl : List Nat} (h : PED cs X e m) (hg : PGD cs X tg sl mg) (hs : swapsWithSole [tg] e pos.line X.env = pure false := by rfl) (hw : swappedStores [tg] e X.env = pure none := by rfl)
    (h1 : (assignEach [tg] X.env).map (·.2) = [assign tg X.env] := by rfl) : PSD cs X (.Assign [tg] e pos) (mAsg mg m) := by
  obtain ⟨t, a1, a2⟩ := h.ex
  obtain ⟨g, g1, g2⟩ := hg.ex
  exact ⟨_, ps_asg a1 g1 hs hw h1, asg_ev a2 g2⟩
/-- a, b = x, y: plain local names -/
def mPar (i j : Nat) (m : Env' → Mo (List D)) : MS := fun env => bindM (m env) fun ds => match ds with
  | [d, e] => retM (.nx, (env.set i (.val d)).set j (.val e))
  | _ => failM
theorem s_par (i j : Nat) {x y : Str} {a b : Expr} {px py pt : Pos} {kt k2 pt2} {m : Env' → Mo (List D)} (hc : X.calm = true) (hN : X.N.Nodup) (ha : PAD cs X [a, b] m) (hw : swappedStores [.Tuple [.Name x px, .Name y py] kt pt] (.Tuple [a, b] k2 pt2) X.env = pure (some [x, y]))
    (hi : X.N[i]? = some x := by rfl) (hj : X.N[j]? = some y := by rfl) (hij : i ≠ j := by decide) (hx : X.env.scope.names.lookup x = some .local := by rfl) (hy : X.env.scope.names.lookup y = some .local := by rfl)
    (hs : swapsWithSole [.Tuple [.Name x px, .Name y py] kt pt] (.Tuple [a, b] k2 pt2) pos.line X.env = pure false := by rfl) : PSD cs X (.Assign [.Tuple [.Name x px, .Name y py] kt pt] (.Tuple [a, b] k2 pt2) pos) (mPar i j m) := by
  obtain ⟨t, a1, a2⟩ := ha.ex
  refine ⟨_, ps_par hc hN hi hj hij hx hy a1 hw hs, fun ap H0 B0 B σ env H p E o env' p' k hm q => ?_⟩
  obtain ⟨ds, p1, e1, e2⟩ := bindM_some hm
  split at e2
  · rename_i d e
    cases e2
    refine a2 ap H0 B0 B σ env H p _ _ p' k e1 fun B' H' vs n hp r => ?_
    simp only [Reps] at r
    obtain ⟨v, _, rfl, r1, w, _, rfl, r2, rfl⟩ := r
    exact ⟨v, w, rfl, q B' _ H' n.bb (((k.nxt n hp).setv' r1).setv' r2)⟩
  · cases e2
/-! ### loops -/
/-- an iterator walks these data -/
def Wk (K : PySem.W.Frag) (cs : CT) (ap : Addr) (J : It) (ds : List D) (B H : Hp) : Prop := ∀ i, (∀ d, ds[i]? = some d → J.go i H ∧ ∀ x H', J.yld i H x H' → ∃ B', Nxt ap B H B' H' ∧ (H ap ≠ none → H' ap = H ap) ∧ Rep K cs ap B' d x) ∧ (ds.length ≤ i → J.stop i H)
def EvI (K : PySem.W.Frag) (cs : CT) (wi : TI) (m : Env' → Mo (List D)) : Prop := ∀ ap H0 B0 B σ env H p (R : It → Hp → Prop) ds p', Ok K cs ap H0 B0 B σ env H p → m env p = some (ds, p') →
  (∀ B' H' J, Nxt ap B H B' H' → PotAt ap H' p' → (∀ B2 H2, Ex B' B2 → Ex B2 H2 → Wk K cs ap J ds B2 H2) → R J H') → wi σ H R
structure PID (cs : CT) (X : Cx) (tg iter : Expr) (m : Env' → Mo (List D)) : Prop where
  ex : ∃ wi, PI X tg iter wi ∧ EvI X.K cs wi m
/-- the same where what stands stays (a comprehension) -/
def EvJ (K : PySem.W.Frag) (cs : CT) (wi : TI) (m : Env' → Mo (List D)) : Prop := ∀ ap H0 B0 B σ env H p (R : It → Hp → Prop) ds p', Ok K cs ap H0 B0 B σ env H p → m env p = some (ds, p') →
  (∀ B' H' J, Nxt ap B H B' H' → PotAt ap H' p' → (∀ B2 H2, Nxt ap B' H' B2 H2 → Wk K cs ap J ds B2 H2) → R J H') → wi σ H R
structure PJD (cs : CT) (X : Cx) (tg iter : Expr) (m : Env' → Mo (List D)) : Prop where
  ex : ∃ wi, PI X tg iter wi ∧ EvJ X.K cs wi m
theorem PID.j {tg iter : Expr} {m : Env' → Mo (List D)} (h : PID cs X tg iter m) : PJD cs X tg iter m := by
  obtain ⟨wi, h1, h2⟩ := h.ex
  exact ⟨wi, h1, fun ap H0 B0 B σ env H p R ds p' k hm q => h2 ap H0 B0 B σ env H p R ds p' k hm fun B' H' J n hp wk => q B' H' J n hp fun B2 H2 n2 => wk B2 H2 n2.bb n2.bh⟩
theorem for_ev {K : PySem.W.Frag} {wi : TI} {g : TG} {tb : TS} {msrc : Env' → Mo (List D)} {mg : MG} {sl : List Nat} (hi : EvI K cs wi msrc) (hg : EvG K cs g sl mg) (hb : EvS K cs tb ms) : EvS K cs (tFor wi g tb) (mFor msrc mg ms) := by
  intro ap H0 B0 B σ env H p E o env' p' k hm q
  obtain ⟨ds, p1, e1, e2⟩ := bindM_some hm
  refine hi ap H0 B0 B σ env H p _ ds p1 k e1 fun B1 H1 J n1 hp1 wk => ?_
  have k1 := k.nxt n1 hp1
  refine ⟨fun i m σ' H' => m = ds.length - i ∧ ∃ B2 env2 p2, Ex B1 B2 ∧ Ok K cs ap H0 B0 B2 σ' env2 H' p2 ∧ loopM (mTg mg ms) (ds.drop i) env2 p2 = some ((o, env'), p'),
    ⟨_, rfl, B1, env, p1, Ex.refl _, k1, e2⟩, ?_⟩
  rintro i mm σ' H' ⟨rfl, B2, env2, p2, ex2, k2, he⟩
  have wki := wk B2 H' ex2 k2.bh i
  by_cases hlt : i < ds.length
  · right
    obtain ⟨d, hd⟩ : ∃ d, ds[i]? = some d := ⟨ds[i], List.getElem?_eq_getElem hlt⟩
    obtain ⟨hgo, hy⟩ := wki.1 d hd
    refine ⟨hgo, ?_⟩
    have hdr : ds.drop i = d :: ds.drop (i + 1) := by
      rw [List.drop_eq_getElem_cons hlt]
      rw [List.getElem?_eq_getElem hlt] at hd
      rw [Option.some.inj hd]
    rw [hdr] at he
    obtain ⟨⟨o1, env3⟩, p3, e3, e4⟩ := bindM_some (m := mTg mg ms d env2) he
    refine ⟨fun σ3 H3 => ∃ B3, Ex B1 B3 ∧ Ok K cs ap H0 B0 B3 σ3 env3 H3 p3 ∧ loopM (mTg mg ms) (ds.drop (i + 1)) env3 p3 = some ((o, env'), p'),
      fun σ3 H3 ⟨B3, ex3, k3, h3⟩ => ⟨ds.length - (i + 1), by omega, rfl, B3, env3, p3, ex3, k3, h3⟩, fun x H3 hyl => ?_⟩
    obtain ⟨B3, n3, hap, r3⟩ := hy x H3 hyl
    have hp3 : PotAt ap H3 p2 := by
      unfold PotAt
      rw [hap (by rw [k2.pot]; exact fun z => nomatch z)]
      exact k2.pot
    have k3 := k2.nxt n3 hp3
    unfold mTg at e3
    rcases he4 : mg d env2 with _ | env4
    · rw [he4] at e3; cases e3
    · rw [he4] at e3
      refine hg ap H0 B0 B3 σ' env2 H3 p2 _ d x env4 k3 r3 he4 fun σ4 k4 _ => ?_
      refine hb ap H0 B0 B3 σ4 env4 H3 p2 _ o1 env3 p3 k4 e3 ?_
      have ex3 : Ex B1 B3 := ex2.trans n3.bb
      cases o1 with
      | nx => exact fun B5 σ5 H5 ex5 k5 => ⟨B5, ex3.trans ex5, k5, e4⟩
      | ct => exact fun B5 σ5 H5 ex5 k5 => ⟨B5, ex3.trans ex5, k5, e4⟩
      | bk =>
        cases e4
        exact fun B5 σ5 H5 ex5 k5 => q B5 σ5 H5 ((n1.bb.trans ex3).trans ex5) k5
      | rt v =>
        cases e4
        exact q
      | ro v =>
        cases e4
        exact q
  · left
    refine ⟨wki.2 (by omega), ?_⟩
    rw [List.drop_eq_nil_of_le (by omega)] at he
    cases he
    exact q B2 σ' H' (n1.bb.trans ex2) k2
theorem s_for {tg iter : Expr} {body : List Stmt} {msrc : Env' → Mo (List D)} {mg : MG} {sl : List Nat} (hp : PassesOwn (model X.prog X.w) X.A X.env X.xe) (hc : X.calm = true) (hi : PID cs X tg iter msrc) (hg : PGD cs X tg sl mg) (hb : PSsD cs X body ms)
    (hs : ∀ x, foldedSetIterable iter X.env x = pure x := by intro _; rfl) : PSD cs X (.For tg iter body [] pos) (mFor msrc mg ms) := by
  obtain ⟨t, a1, a2⟩ := hi.ex
  obtain ⟨g, g1, g2⟩ := hg.ex
  obtain ⟨b, b1, b2⟩ := hb.ex
  exact ⟨_, ps_for hp hc a1 g1 b1 hs, for_ev a2 g2 b2⟩
theorem while_ev {K : PySem.W.Frag} {tc : TT} {tb : TS} {mc : Env' → Mo Bool} (hc : EvT K cs tc mc) (hb : EvS K cs tb ms) : EvS K cs (tWhile tc tb) (mWhile mc ms) := by
  intro ap H0 B0 B σ env H p E o env' p' k hm q
  refine ⟨fun m σ' H' => ∃ B2 env2 p2, Ex B B2 ∧ Ok K cs ap H0 B0 B2 σ' env2 H' p2 ∧ whileM mc ms m env2 p2 = some ((o, env'), p'), ⟨fuelW, B, env, p, Ex.refl _, k, hm⟩, ?_⟩
  rintro m σ' H' ⟨B2, env2, p2, ex2, k2, he⟩
  cases m with
  | zero => cases he
  | succ m =>
    obtain ⟨x, p3, e3, e4⟩ := bindM_some (m := mc env2) he
    refine hc ap H0 B0 B2 σ' env2 H' p2 _ x p3 k2 e3 fun B3 H3 n3 hp3 => ?_
    have k3 := k2.nxt n3 hp3
    cases x with
    | true =>
      rw [if_pos rfl] at e4 ⊢
      obtain ⟨⟨o1, env4⟩, p4, e5, e6⟩ := bindM_some (m := ms env2) e4
      refine ⟨fun σ5 H5 => ∃ B5, Ex B B5 ∧ Ok K cs ap H0 B0 B5 σ5 env4 H5 p4 ∧ whileM mc ms m env4 p4 = some ((o, env'), p'),
        fun σ5 H5 ⟨B5, ex5, k5, h5⟩ => ⟨m, by omega, B5, env4, p4, ex5, k5, h5⟩, ?_⟩
      refine hb ap H0 B0 B3 σ' env2 H3 p3 _ o1 env4 p4 k3 e5 ?_
      have ex3 : Ex B B3 := ex2.trans n3.bb
      cases o1 with
      | nx => exact fun B5 σ5 H5 ex5 k5 => ⟨B5, ex3.trans ex5, k5, e6⟩
      | ct => exact fun B5 σ5 H5 ex5 k5 => ⟨B5, ex3.trans ex5, k5, e6⟩
      | bk =>
        cases e6
        exact fun B5 σ5 H5 ex5 k5 => q B5 σ5 H5 (ex3.trans ex5) k5
      | rt v =>
        cases e6
        exact q
      | ro v =>
        cases e6
        exact q
    | false =>
      rw [if_neg (by decide)] at e4 ⊢
      cases e4
      exact q B3 σ' H3 (ex2.trans n3.bb) k3
theorem s_while {c : Expr} {body : List Stmt} {mc : Env' → Mo Bool} (hp : PassesOwn (model X.prog X.w) X.A X.env X.xe) (hc : PTD cs X c mc) (hb : PSsD cs X body ms) : PSD cs X (.While c body [] pos) (mWhile mc ms) := by
  obtain ⟨t, a1, a2⟩ := hc.ex
  obtain ⟨b, b1, b2⟩ := hb.ex
  exact ⟨_, ps_while hp a1 b1, while_ev a2 b2⟩
end
end DL
end

section
set_option Elab.async false
set_option linter.all false
set_option maxRecDepth 100000
set_option maxHeartbeats 4000000
/-! DL: defs, calls. -/
namespace DL
open PySem PySem.Spec PyProof.Rows L2
open Evl (Ex)

/-- a def's promise: from data to a datum -/
def spD (K : PySem.W.Frag) (cs : CT) (n : Nat) (f : List D → Mo D) : Sp := fun vs H Q _ => ∃ ap B ds p d p', vs.length = n ∧ Ex B H ∧ PotAt ap H p ∧ B ap = none ∧ Reps K cs ap B ds vs ∧ f ds p = some (d, p') ∧ KE K cs ap B H p' d Q

/-- a def keeps a promise; g: only where no repr is under way -/
structure FnD (g : Bool) (P : Program) (w : World) (K : PySem.W.Frag) (mg : Str → Option Value) (base : Heap) (k : Nat) (f : Addr) (fd : FuncData) (ps : List Str) (sp : Sp) : Prop where
  len : ∀ vs H Q E, sp vs H Q E → vs.length = ps.length
  run : ∀ (A : Around) (outer : List Env) (s : Shared) (H : Hp) (args : Args) (us : List Value) (vs : List V) (Q : VK) (E : XK), Room k A → (g = true → A.guards = some []) → Env0 P w K mg base A outer s H → BindsTo s fd args (ps.zip us) → Vals vs us → sp vs H Q E →
    codeAny (model P w) A (.call (.ref f) args) (CR CX0 outer P w H s Q E) s
theorem FnD.of {P : Program} {w : World} {K : PySem.W.Frag} {mg : Str → Option Value} {base : Heap} {k : Nat} {f : Addr} {fd : FuncData} {ps : List Str} {sp : Sp} (g : Bool) (F : FnOk P w K mg base CX0 k f fd ps sp) : FnD g P w K mg base k f fd ps sp :=
  ⟨F.len, fun A outer s H args us vs Q E hr _ e0 hb r h => F.run A outer s H args us vs Q E hr e0 hb r h⟩
theorem FnD.ok {P : Program} {w : World} {K : PySem.W.Frag} {mg : Str → Option Value} {base : Heap} {k : Nat} {f : Addr} {fd : FuncData} {ps : List Str} {sp : Sp} (F : FnD false P w K mg base k f fd ps sp) : FnOk P w K mg base CX0 k f fd ps sp :=
  ⟨F.len, fun A outer s H args us vs Q E hr e0 hb r h => F.run A outer s H args us vs Q E hr (fun z => nomatch z) e0 hb r h⟩
theorem FnD.mono {g g' : Bool} {P : Program} {w : World} {K : PySem.W.Frag} {mg : Str → Option Value} {base : Heap} {k k' : Nat} {f : Addr} {fd : FuncData} {ps : List Str} {sp : Sp} (F : FnD g P w K mg base k f fd ps sp) (hk : k ≤ k') (hg : g = true → g' = true) : FnD g' P w K mg base k' f fd ps sp :=
  ⟨F.len, fun A outer s H args us vs Q E hr h' e0 hb r h => F.run A outer s H args us vs Q E (hr.mono hk) (fun z => h' (hg z)) e0 hb r h⟩

/-- what happens in a def's own frame -/
abbrev cx0 (P : Program) (w : World) (K : PySem.W.Frag) (mg : Str → Option Value) (base : Heap) (N : List Str) (qual : Str) (sc : Scope) (f : Addr) (cdv : Value) (A : Around) (outer : List Env) (s : Shared) (H : Hp) (E : XK) : Cx :=
  (cxOf CX0 P w K mg base N qual sc f cdv A outer s H E).nox
/-- the def at f, entered -/
theorem fn_enter {g : Bool} {P : Program} {w : World} {K : PySem.W.Frag} {mg : Str → Option Value} {base : Heap} {k : Nat} {f : Addr} {name qual : Str} {params : Arguments} {body : List Stmt} {scope : Scope} {dvs : List V} {kws : List (Str × V)} {fd : FuncData} {N ps : List Str} {sp : Sp}
    (F : FunD K name qual params body scope dvs kws f fd) (S : FnScope N ps scope) (hlen : ∀ vs H Q E, sp vs H Q E → vs.length = ps.length)
    (hbody : ∀ (cdv : Value) (A : Around) (outer : List Env) (s : Shared) (H : Hp) (vs : List V) (Q : VK) (E : XK), Room k (A.deeper (envOfC qual scope s.heap.objs.size f cdv)) → (g = true → A.guards = some []) → sp vs H Q E →
      ∃ t, PSs (cx0 P w K mg base N qual scope f cdv A outer s H E) body t ∧ t { nx := fun _ H' => Q .non H', rt := Q } (L2.start N vs) H) : FnD g P w K mg base (k + 1) f fd ps sp := by
  obtain ⟨oc, od, dV, kV, doc, pm, an, cdv, ct, osl, rfl, lk, hcd, hD, hK⟩ := F.ex
  refine ⟨hlen, fun A outer s H args us vs Q E room hg e0 hbd rv hs => ?_⟩
  have kIn : K.In s.heap := e0.mod.kin.keeps fun b o z => (e0.bs b o z).1
  refine codeAny_call_function room.depth (kIn _ _ lk) rfl S.co S.gen rfl (PySem.W.codeRec_of kIn hcd) (hbd _ _ _ _ ?_)
  refine wpAny_newFunctionEnv_cells S.kind (fun y hy => ?_) fun env he s1 x => ?_
  · obtain ⟨n, v⟩ := y
    cases S.par n (List.of_mem_zip hy).1 with
    | inl q => exact .inl q
    | inr q => exact .inr ⟨q, PySem.W.cellsFrom_some _ _ _ (.inl q)⟩
  · subst he
    have lim : s.heap.NoLimit := e0.mod.nolimit.keeps fun b o z => (e0.bs b o z).1
    refine ⟨lim.keeps x.toInCall.keep, codeAny_func ?_⟩
    obtain ⟨t, ht, hq⟩ := hbody cdv A outer s H vs Q E (room.deeper _) hg hs
    refine wpAny_mono (ht.nox.run [] s1 (L2.start N vs) H _ (inv_start S room.hd e0 (hlen _ _ _ _ hs) rv x) hq) (fun fl s' z => ?_) fun e s' z => z
    have done : ∀ {σ' : L2.St} {H' : Hp} {v : V} {u : Value}, Inv (cxOf CX0 P w K mg base N qual scope f cdv A outer s H E) [] σ' H' s' → RelV v u → Q v H' → CE outer P w H s Q u s' := fun {_ H' v _} J a b => ⟨v, H', J.os, J.bare, J.base, J.hok, a, b⟩
    match fl, z with
    | .ret u, ⟨v, σ', H', J, a, b⟩ => exact done J a b
    | .next, ⟨σ', H', J, b⟩ => exact done (v := V.non) (u := Value.none) J rfl b
    | .brk, ⟨_, _, _, b⟩ => exact b.elim
    | .cont, ⟨_, _, _, b⟩ => exact b.elim

/-- the slots at the entry -/
def env0 (n : Nat) (ds : List D) : Env' := ds.map .val ++ List.replicate (n - ds.length) .un
/-- a def's denotation, from its body's -/
def runD (n : Nat) (m : MS) : List D → Mo D := fun ds => bindM (m (env0 n ds)) fun r => match r.1 with
  | .rt d => retM d
  | .ro ds => retM (.lst ds)
  | .nx => retM .non
  | _ => failM
theorem reps_map {K : PySem.W.Frag} {cs : CT} {ap : Addr} {B : Hp} {ds : List D} {vs : List V} (h : Reps K cs ap B ds vs) {i : Nat} {d : D} (e : ds[i]? = some d) : ∃ v, (vs.map some)[i]? = some (some v) ∧ Rep K cs ap B d v := by
  obtain ⟨v, h1, h2⟩ := h.get e
  exact ⟨v, by rw [List.getElem?_map, h1]; rfl, h2⟩
/-- a new list becomes a datum -/
theorem KE.own {K : PySem.W.Frag} {cs : CT} {ap : Addr} {B H B' H' : Hp} {p : Pt} {ds : List D} {Q : VK} {a : Addr} {xs : List V} (q : KE K cs ap B H p (.lst ds) Q) (n : Nxt ap B H B' H') (hp : PotAt ap H' p) (hn : H a = none) (hb : B' a = none) (hh : H' a = some (.lst xs)) (r : Reps K cs ap B' ds xs) : Q (.ref a) H' := by
  have ex : Ex B' (upd B' a (.lst xs)) := Ex.new hb
  refine q (upd B' a (.lst xs)) H' (.ref a) ⟨n.bb.trans ex, fun b o hbo => ?_, fun b hb1 hb2 => ?_, n.fr, n.nn⟩ hp (by simp only [Rep]; exact ⟨a, xs, rfl, upd_same, r.mono ex⟩)
  · by_cases z : b = a
    · subst z; rw [upd_same] at hbo; rw [hh]; exact hbo
    · rw [upd_ne z] at hbo; exact n.bh _ _ hbo
  · have z : b ≠ a := fun z => hb1 (z ▸ hn)
    rw [upd_ne z]; exact n.nw b hb1 hb2
/-- the state at the entry -/
theorem ok_start {K : PySem.W.Frag} {cs : CT} {ap : Addr} {B H : Hp} {N : List Str} {ds : List D} {vs : List V} {p : Pt} (e : Ex B H) (hp : PotAt ap H p) (hb : B ap = none) (r : Reps K cs ap B ds vs) : Ok K cs ap H B B (L2.start N vs) (env0 N.length ds) H p := by
  have hl := r.length
  have own : ∀ (i : Nat) sv, (env0 N.length ds)[i]? = some sv → sv.prv = true → False := fun i sv h g => by
    unfold env0 at h
    rw [List.getElem?_append] at h
    split at h
    · rw [List.getElem?_map] at h
      cases z : ds[i]? with
      | none => rw [z] at h; cases h
      | some d => rw [z] at h; cases h; cases g
    · rw [List.getElem?_replicate] at h
      split at h
      · cases h; cases g
      · cases h
  refine ⟨Nxt.refl e, hp, hb, by rw [show H ap = _ from hp]; exact (fun z => nomatch z), fun i sv h => ?_, fun i sv a h g _ => (own i sv h g).elim, fun i j sv sv' a _ h _ g _ _ => (own i sv h g).elim, by unfold L2.start env0; simp [hl], fun i c es a h _ => (own i _ h rfl).elim⟩
  unfold env0 at h
  unfold L2.start
  rw [List.getElem?_append] at h
  split at h
  · rename_i hi
    rw [List.getElem?_map] at h
    cases z : ds[i]? with
    | none => rw [z] at h; cases h
    | some d =>
      rw [z] at h
      cases h
      rw [List.length_map] at hi
      rw [List.getElem?_append_left (by rw [List.length_map]; omega)]
      exact reps_map r z
  · rw [List.getElem?_replicate] at h
    split at h
    · cases h; trivial
    · cases h
/-- THE RULE of a def -/
theorem fn_d {g : Bool} {cs : CT} {P : Program} {w : World} {K : PySem.W.Frag} {mg : Str → Option Value} {base : Heap} {k : Nat} {f : Addr} {name qual : Str} {params : Arguments} {body : List Stmt} {scope : Scope} {dvs : List V} {kws : List (Str × V)} {fd : FuncData} {N ps : List Str} {m : MS}
    (F : FunD K name qual params body scope dvs kws f fd) (S : FnScope N ps scope)
    (hbody : ∀ (cdv : Value) (A : Around) (outer : List Env) (s : Shared) (H : Hp) (E : XK), Room k (A.deeper (envOfC qual scope s.heap.objs.size f cdv)) → (g = true → A.guards = some []) →
      PSsD cs (cx0 P w K mg base N qual scope f cdv A outer s H E) body m) : FnD g P w K mg base (k + 1) f fd ps (spD K cs ps.length (runD N.length m)) := by
  refine fn_enter F S (fun vs H Q E h => ?_) fun cdv A outer s H vs Q E hr hg h => ?_
  · obtain ⟨ap, B, ds, p, d, p', h, _⟩ := h
    exact h
  · obtain ⟨ap, B, ds, p, d, p', hl, e, hp, hb, r, hm, q⟩ := h
    obtain ⟨t, ht, hv⟩ := (hbody cdv A outer s H E hr hg).ex
    refine ⟨t, ht, ?_⟩
    obtain ⟨⟨o, env'⟩, p1, e1, e2⟩ := bindM_some hm
    refine hv ap H B B _ _ H p _ o env' p1 (ok_start e hp hb r) e1 ?_
    cases o with
    | rt d' => cases e2; exact q
    | nx => cases e2; exact fun B' σ' H' _ k' => q B' H' .non k'.st k'.pot (by simp only [Rep])
    | ro ds' => cases e2; exact fun B' H' a xs n hp' h0 hb' hh r' => KE.own q n hp' h0 hb' hh r'
    | bk => cases e2
    | ct => cases e2
/-- a def that hands back a new list -/
def spO (K : PySem.W.Frag) (cs : CT) (n : Nat) (f : List D → Mo (List D)) : Sp := fun vs H Q _ => ∃ ap B ds p es p', vs.length = n ∧ Ex B H ∧ PotAt ap H p ∧ B ap = none ∧ Reps K cs ap B ds vs ∧ f ds p = some (es, p') ∧ KO K cs ap B H p' es Q
def runO (n : Nat) (m : MS) : List D → Mo (List D) := fun ds => bindM (m (env0 n ds)) fun r => match r.1 with
  | .ro ds => retM ds
  | _ => failM
theorem fn_dO {g : Bool} {cs : CT} {P : Program} {w : World} {K : PySem.W.Frag} {mg : Str → Option Value} {base : Heap} {k : Nat} {f : Addr} {name qual : Str} {params : Arguments} {body : List Stmt} {scope : Scope} {dvs : List V} {kws : List (Str × V)} {fd : FuncData} {N ps : List Str} {m : MS}
    (F : FunD K name qual params body scope dvs kws f fd) (S : FnScope N ps scope)
    (hbody : ∀ (cdv : Value) (A : Around) (outer : List Env) (s : Shared) (H : Hp) (E : XK), Room k (A.deeper (envOfC qual scope s.heap.objs.size f cdv)) → (g = true → A.guards = some []) →
      PSsD cs (cx0 P w K mg base N qual scope f cdv A outer s H E) body m) : FnD g P w K mg base (k + 1) f fd ps (spO K cs ps.length (runO N.length m)) := by
  refine fn_enter F S (fun vs H Q E h => ?_) fun cdv A outer s H vs Q E hr hg h => ?_
  · obtain ⟨ap, B, ds, p, d, p', h, _⟩ := h
    exact h
  · obtain ⟨ap, B, ds, p, d, p', hl, e, hp, hb, r, hm, q⟩ := h
    obtain ⟨t, ht, hv⟩ := (hbody cdv A outer s H E hr hg).ex
    refine ⟨t, ht, ?_⟩
    obtain ⟨⟨o, env'⟩, p1, e1, e2⟩ := bindM_some hm
    refine hv ap H B B _ _ H p _ o env' p1 (ok_start e hp hb r) e1 ?_
    cases o with
    | rt d' => cases e2
    | nx => cases e2
    | ro ds' => cases e2; exact q
    | bk => cases e2
    | ct => cases e2

/-! ### calls -/
section
variable {cs : CT} {X : Cx} {g : Bool} {k : Nat} {f : Addr} {fd : FuncData} {ps : List Str} {sp : Sp} {x : Str} {p pos : Pos} {e : Expr} {es : List Expr} {m : Env' → Mo (List D)} {fm : List D → Mo D}
/-- the callee runs -/
theorem run_d {ds : List Value} {pins : List (Addr × Obj)} {σ : L2.St} {H : Hp} {s : Shared} {Q : VK} {args : Args} {us : List Value} {vs : List V} {E : XK} (F : FnD g X.prog X.w X.K X.mg X.base k f fd ps sp) (hr : Room k X.A) (hg : g = true → X.A.guards = some [])
    (hb : BindsTo s fd args (ps.zip us)) (I : Inv X pins σ H s) (r : Vals vs us) (h : sp vs H Q E) : codeAny (model X.prog X.w) X.A (.call (.ref f) args) (fun r s' => match r with
      | .ok (.ret u) => EP X pins σ Q u s'
      | .ok _ => False
      | .error e => False) s := by
  refine codeAny_mono (F.run X.A X.stack s H args us vs Q E hr hg I.env0 hb r h) fun r s' hq => ?_
  match r, hq with
  | .ok (.ret u), hq => exact I.after hq
  | .error e, hq => exact hq.elim
  | .ok .next, hq => exact hq.elim
  | .ok .brk, hq => exact hq.elim
  | .ok .cont, hq => exact hq.elim
theorem call_d {pins : List (Addr × Obj)} {σ : L2.St} {H : Hp} {s : Shared} {Q : VK} {kw : List (Str × Value)} {pv us : List Value} {vs : List V} {E : XK} (F : FnD g X.prog X.w X.K X.mg X.base k f fd ps sp) (hr : Room k X.A) (hg : g = true → X.A.guards = some [])
    (hb : BindsTo s fd ⟨pv, kw⟩ (ps.zip us)) (I : Inv X pins σ H s) (r : Vals vs us) (h : sp vs H Q E) : wpAny (model X.prog X.w) X.A (call (.ref f) pv kw) (EP X pins σ Q) X.xe s := by
  refine wpAny_call (codeAny_mono (run_d (ds := []) F hr hg hb I r h) fun r s' hq => ?_)
  match r, hq with
  | .ok (.ret u), hq => exact hq
  | .error e, hq => exact hq.elim
  | .ok .next, hq => exact hq.elim
  | .ok .brk, hq => exact hq.elim
  | .ok .cont, hq => exact hq.elim
/-- a reading of a call: the arguments, then the promise -/
def tCl (sp : Sp) (t : TA) : TE := fun σ H Q => t σ H fun vs H1 => sp vs H1 Q E0
theorem call_ev {K : PySem.W.Frag} {n : Nat} {t : TA} (h : EvA K cs t m) (hn : ∀ ds p d p', fm ds p = some (d, p') → ds.length = n) : EvE K cs (tCl (spD K cs n fm) t) (mCall fm m) := by
  intro ap H0 B0 B σ env H p Q d p' k hm q
  obtain ⟨ds, p1, e1, e2⟩ := bindM_some hm
  refine h ap H0 B0 B σ env H p _ ds p1 k e1 fun B1 H1 vs n1 hp1 r => ?_
  have k1 := k.nxt n1 hp1
  exact ⟨ap, B1, ds, p1, d, p', by rw [r.length, hn ds p1 d p' e2], k1.bh, hp1, k1.bap, r, e2, fun B' H' v n2 hp2 r2 => q B' H' v (n1.trans n2) hp2 r2⟩
/-- how many arguments are written -/
def lenM (n : Nat) (f : List D → Mo D) : List D → Mo D := fun ds => if ds.length = n then f ds else failM
theorem lenM_len {n : Nat} {f : List D → Mo D} : ∀ ds p d p', lenM n f ds p = some (d, p') → ds.length = n := by
  intro ds p d p' h
  unfold lenM at h
  split at h
  · assumption
  · cases h
theorem spD_len {K : PySem.W.Frag} {n : Nat} {vs : List V} {H : Hp} {Q : VK} {E : XK} (h : spD K cs n (lenM n fm) vs H Q E) : spD K cs n fm vs H Q E := by
  obtain ⟨ap, B, ds, p, d, p', hl, e, hp, hb, r, hm, q⟩ := h
  refine ⟨ap, B, ds, p, d, p', hl, e, hp, hb, r, ?_, q⟩
  unfold lenM at hm
  rw [if_pos (by rw [← r.length]; exact hl)] at hm
  exact hm
/-- f(e, ..) -/
theorem p_call {n : Nat} (F : FnD g X.prog X.w X.K X.mg X.base k f fd ps (spD X.K cs n fm)) (hr : Room k X.A) (hgd : g = true → X.A.guards = some []) (hm : X.mg x = some (.ref f)) (hk : PySem.W.keepIn X.K (.ref f) = true) (hb : Binds X.K fd ps []) (ha : PAD cs X (e :: es) m) (hg : Gl X x := by rfl)
    (hdb : (x == ("__debug__" : Str)) = false := by decide) (he : starEach (e :: es) X.env = (false, eval e X.env) :: starEach es X.env := by rfl) (hpl : (backTo pos (starEach es X.env)).any (·.1) = false := by rfl) :
    PED cs X (.Call (.Name x p) (e :: es) [] pos) (mCall (lenM n fm) m) := by
  obtain ⟨ta, a1, a2⟩ := ha.ex
  refine ⟨tCl (spD X.K cs n (lenM n fm)) ta, ⟨fun pins s σ H Q I h => ?_⟩, call_ev a2 lenM_len⟩
  refine wpAny_Call_Name_kw (ld_glob I hg hm ?_ hdb)
  refine PySem.W.callWith_K (h₀ := X.base) I.ok.mod.kin hk (thn (a1.run pos pins s σ H _ I h) fun us s1 ⟨vs, H1, I1, r, q⟩ => ⟨I1.kIn, ?_⟩) he hpl
  have hb1 := hb s1 us I1.kIn (by rw [List.append_nil, ← r.length]; exact F.len _ _ _ _ (spD_len q))
  rw [List.append_nil] at hb1
  exact call_d (pv := us) (kw := []) F hr hgd hb1 I1 r (spD_len q)
theorem callO_ev {K : PySem.W.Frag} {n : Nat} {t : TA} {fo : List D → Mo (List D)} (h : EvA K cs t m) (hn : ∀ ds p d p', fo ds p = some (d, p') → ds.length = n) : EvO K cs (tCl (spO K cs n fo) t) (mCallO fo m) := by
  intro ap H0 B0 B σ env H p Q d p' k hm q
  obtain ⟨ds, p1, e1, e2⟩ := bindM_some hm
  refine h ap H0 B0 B σ env H p _ ds p1 k e1 fun B1 H1 vs n1 hp1 r => ?_
  have k1 := k.nxt n1 hp1
  refine ⟨ap, B1, ds, p1, d, p', by rw [r.length, hn ds p1 d p' e2], k1.bh, hp1, k1.bap, r, e2, fun B' H' a xs n2 hp2 h0 hb hh r2 => q B' H' a xs (n1.trans n2) hp2 ?_ hb hh r2⟩
  cases z : H a with
  | none => rfl
  | some o => exact absurd h0 (n1.nn a (by rw [z]; exact fun y => nomatch y))
def lenO (n : Nat) (f : List D → Mo (List D)) : List D → Mo (List D) := fun ds => if ds.length = n then f ds else failM
theorem lenO_len {n : Nat} {f : List D → Mo (List D)} : ∀ ds p d p', lenO n f ds p = some (d, p') → ds.length = n := by
  intro ds p d p' h
  unfold lenO at h
  split at h
  · assumption
  · cases h
theorem spO_len {K : PySem.W.Frag} {n : Nat} {vs : List V} {H : Hp} {Q : VK} {E : XK} {fo : List D → Mo (List D)} (h : spO K cs n (lenO n fo) vs H Q E) : spO K cs n fo vs H Q E := by
  obtain ⟨ap, B, ds, p, d, p', hl, e, hp, hb, r, hm, q⟩ := h
  refine ⟨ap, B, ds, p, d, p', hl, e, hp, hb, r, ?_, q⟩
  unfold lenO at hm
  rw [if_pos (by rw [← r.length]; exact hl)] at hm
  exact hm
/-- f(e, ..), a new list handed back -/
theorem p_callO {n : Nat} {fo : List D → Mo (List D)} (F : FnD g X.prog X.w X.K X.mg X.base k f fd ps (spO X.K cs n fo)) (hr : Room k X.A) (hgd : g = true → X.A.guards = some []) (hm : X.mg x = some (.ref f)) (hk : PySem.W.keepIn X.K (.ref f) = true) (hb : Binds X.K fd ps []) (ha : PAD cs X (e :: es) m) (hg : Gl X x := by rfl)
    (hdb : (x == ("__debug__" : Str)) = false := by decide) (he : starEach (e :: es) X.env = (false, eval e X.env) :: starEach es X.env := by rfl) (hpl : (backTo pos (starEach es X.env)).any (·.1) = false := by rfl) :
    POD cs X (.Call (.Name x p) (e :: es) [] pos) (mCallO (lenO n fo) m) := by
  obtain ⟨ta, a1, a2⟩ := ha.ex
  refine ⟨tCl (spO X.K cs n (lenO n fo)) ta, ⟨fun pins s σ H Q I h => ?_⟩, callO_ev a2 lenO_len⟩
  refine wpAny_Call_Name_kw (ld_glob I hg hm ?_ hdb)
  refine PySem.W.callWith_K (h₀ := X.base) I.ok.mod.kin hk (thn (a1.run pos pins s σ H _ I h) fun us s1 ⟨vs, H1, I1, r, q⟩ => ⟨I1.kIn, ?_⟩) he hpl
  have hb1 := hb s1 us I1.kIn (by rw [List.append_nil, ← r.length]; exact F.len _ _ _ _ (spO_len q))
  rw [List.append_nil] at hb1
  exact call_d (pv := us) (kw := []) F hr hgd hb1 I1 r (spO_len q)
/-- the values of a call by names alone, in the parameters' order -/
def pick {α : Type} (ix : List Nat) (l : List α) : List α := ix.filterMap (l[·]?)
def KwB (fd : FuncData) (ps ks : List Str) (ix : List Nat) : Prop := ∀ (s : Shared) (ws : List Value), ws.length = ks.length → BindsTo s fd ⟨[], ks.zip ws⟩ (ps.zip (pick ix ws))
theorem pick_vals {vs : List V} {us : List Value} (r : Vals vs us) : ∀ ix : List Nat, Vals (pick ix vs) (pick ix us)
  | [] => .nil
  | i :: ix => by
    unfold pick
    rw [List.filterMap_cons, List.filterMap_cons]
    cases h : vs[i]? with
    | none =>
      rw [r.none_of h]
      exact pick_vals r ix
    | some v =>
      obtain ⟨u, h1, h2⟩ := r.get h
      rw [h1]
      exact .cons h2 (pick_vals r ix)
theorem pick_reps {K : PySem.W.Frag} {ap : Addr} {B : Hp} {ds : List D} {vs : List V} (r : Reps K cs ap B ds vs) : ∀ ix : List Nat, Reps K cs ap B (pick ix ds) (pick ix vs)
  | [] => reps_nil
  | i :: ix => by
    unfold pick
    rw [List.filterMap_cons, List.filterMap_cons]
    cases h : ds[i]? with
    | none =>
      have h2 : vs[i]? = none := by
        rw [List.getElem?_eq_none_iff] at h ⊢
        rw [r.length]; exact h
      rw [h2]
      exact pick_reps r ix
    | some d =>
      obtain ⟨v, h1, h2⟩ := r.get h
      rw [h1]
      exact reps_cons h2 (pick_reps r ix)
/-- keyword values -/
structure PKD (cs : CT) (X : Cx) (kws : List Keyword) (m : Env' → Mo (List D)) : Prop where
  ex : ∃ ta, PK X kws ta ∧ EvA X.K cs ta m
theorem k_nil : PKD cs X [] mNil := by
  refine ⟨tNil, pk_nil, fun ap H0 B0 B σ env H p Q d p' k hm q => ?_⟩
  cases hm
  exact q B H [] (Nxt.refl k.bh) k.pot reps_nil
theorem k_cons {nm : Option Str} {kpos : Pos} {kws : List Keyword} {me : Env' → Mo D} (ha : PED cs X e me) (hr : PKD cs X kws m) : PKD cs X (⟨nm, e, kpos⟩ :: kws) (mCons me m) := by
  obtain ⟨ta, a1, a2⟩ := ha.ex
  obtain ⟨tr, r1, r2⟩ := hr.ex
  refine ⟨_, pk_cons a1 r1, fun ap H0 B0 B σ env H p Q d p' k hm q => ?_⟩
  obtain ⟨x, p1, e1, e2⟩ := bindM_some hm
  obtain ⟨xs, p2, e3, e4⟩ := bindM_some e2
  cases e4
  refine a2 ap H0 B0 B σ env H p _ x p1 k e1 fun B1 H1 v n1 hp1 g1 => ?_
  have k1 := k.nxt n1 hp1
  exact r2 ap H0 B0 B1 σ env H1 p1 _ xs p' k1 e3 fun B2 H2 vs n2 hp2 g2 => q B2 H2 (v :: vs) (n1.trans n2) hp2 (reps_cons (g1.mono n2.bb) g2)
def pickM (c : Nat) (ix : List Nat) (f : List D → Mo D) : List D → Mo D := fun ds => if ds.length = c then f (pick ix ds) else failM
/-- f(k = v, ..), names alone -/
theorem p_callK {n : Nat} {ks : List Str} {ix : List Nat} {kws : List Keyword} (F : FnD g X.prog X.w X.K X.mg X.base k f fd ps (spD X.K cs n fm)) (hr : Room k X.A) (hgd : g = true → X.A.guards = some []) (hm : X.mg x = some (.ref f)) (hk : PySem.W.keepIn X.K (.ref f) = true) (hb : KwB fd ps ks ix) (ha : PKD cs X kws m)
    (hks : (backToKw pos (keywordEach kws X.env)).filterMap (·.1) = ks := by rfl) (hall : (backToKw pos (keywordEach kws X.env)).all (·.1.isSome) = true := by rfl) (hn : ix.length = n := by rfl) (hlt : ∀ i ∈ ix, i < ks.length := by decide) (hg : Gl X x := by rfl)
    (hdb : (x == ("__debug__" : Str)) = false := by decide) (hpl : ((backTo pos (starEach [] X.env)).any (·.1) || (backToKw pos (keywordEach kws X.env)).any (·.1.isNone)) = false := by rfl) :
    PED cs X (.Call (.Name x p) [] kws pos) (mCall (pickM ks.length ix fm) m) := by
  obtain ⟨ta, a1, a2⟩ := ha.ex
  refine ⟨tCl (spD X.K cs ks.length (pickM ks.length ix fm)) ta, ⟨fun pins s σ H Q I h => ?_⟩, call_ev a2 fun ds p d p' h => ?_⟩
  · refine wpAny_Call_Name_kw (ld_glob I hg hm ?_ hdb)
    refine PySem.W.callWith_KW0 (h₀ := X.base) I.ok.mod.kin hk hall (thn (a1.run pos pins s σ H _ I h) fun ws s1 ⟨zs, H1, I1, r, q⟩ => ⟨I1.kIn, ?_⟩) hpl
    rw [hks]
    obtain ⟨ap, B, ds, p, d, p', hl, ex, hp, hbp, rr, hmm, qq⟩ := q
    unfold pickM at hmm
    rw [if_pos (by rw [← rr.length]; exact hl)] at hmm
    have hlw : ws.length = ks.length := by rw [← r.length]; exact hl
    have hpl2 : (pick ix zs).length = n := by
      have : ∀ (ix : List Nat), (∀ i ∈ ix, i < ks.length) → (pick ix zs).length = ix.length := by
        intro ix
        induction ix with
        | nil => intro _; rfl
        | cons i ix ih =>
          intro hi
          have h1 : i < zs.length := by rw [hl]; exact hi i List.mem_cons_self
          unfold pick
          rw [List.filterMap_cons, List.getElem?_eq_getElem h1]
          show ((ix.filterMap (zs[·]?)).length + 1) = _
          rw [List.length_cons]
          exact congrArg (· + 1) (ih fun j hj => hi j (List.mem_cons_of_mem _ hj))
      rw [this ix hlt, hn]
    exact call_d (E := E0) (pv := []) (kw := ks.zip ws) F hr hgd (hb s1 ws hlw) I1 (pick_vals r ix) ⟨ap, B, pick ix ds, p, d, p', hpl2, ex, hp, hbp, pick_reps rr ix, hmm, qq⟩
  · unfold pickM at h
    split at h
    · assumption
    · cases h
end
end DL
end

section
set_option Elab.async false
set_option linter.all false
set_option maxRecDepth 100000
set_option maxHeartbeats 4000000
set_option exponentiation.threshold 5000
/-! DL: operators, subscripts, slices, built-in calls. -/
namespace DL
open PySem PySem.Spec PyProof.Rows L2
open Evl (Ex)

/-- one operation, else another -/
def dOr (f g : D → D → Mo D) : D → D → Mo D := fun x y p => match f x y p with
  | some r => some r
  | none => g x y p
@[simp] theorem dOr_ret {f g : D → D → Mo D} {x y a : D} (h : f x y = retM a) : dOr f g x y = retM a := by
  funext p; unfold dOr; rw [h]; rfl
@[simp] theorem dOr_fail {f g : D → D → Mo D} {x y : D} (h : f x y = failM) : dOr f g x y = g x y := by
  funext p; unfold dOr; rw [h]; rfl
/-- no more than so great -/

def bigN : Nat := 2 ^ 4400
theorem log_big {i : Int} (h : i.natAbs < bigN) : i.natAbs.log2 < 4400 := PySem.Flt.log2_lt_of (by decide) h
theorem small_big {n : Nat} (h : n < 2 ^ 64) : n < bigN := Nat.lt_trans h (by unfold bigN; exact Nat.pow_lt_pow_right (by decide) (by decide))

section
variable {cs : CT} {X : Cx} {f g : D → D → Mo D}
theorem OpD.or {op : Value → Value → Sem Value} (h : OpD cs X op f) (h' : OpD cs X op g) : OpD cs X op (dOr f g) := by
  obtain ⟨r, h1, h2⟩ := h
  obtain ⟨r', h3, h4⟩ := h'
  refine ⟨_, OpR.or h1 h3, fun ap B H p x y v u Q d p' e hp hb rx ry hm q => ?_⟩
  unfold dOr at hm
  cases z : f x y p with
  | some w =>
    rw [z] at hm
    cases hm
    exact .inl (h2 ap B H p x y v u Q d p' e hp hb rx ry z q)
  | none =>
    rw [z] at hm
    exact .inr (h4 ap B H p x y v u Q d p' e hp hb rx ry hm q)
/-- two ints in, a flat value out -/
def dII (C : Int → Int → Bool) (f : Int → Int → D) : D → D → Mo D := fun x y => match x, y with
  | .int i, .int j => if C i j = true then retM (f i j) else failM
  | _, _ => failM
theorem opD_II {op : Value → Value → Sem Value} {C : Int → Int → Bool} {C' : Int → Int → Prop} {f : Int → Int → D} {fv : Int → Int → V} (h : OpR X op (rI C' fv)) (hC : ∀ i j, C i j = true → C' i j) (hf : ∀ ap B i j, Rep X.K cs ap B (f i j) (fv i j)) : OpD cs X op (dII C f) := by
  refine ⟨_, h, fun ap B H p x y v u Q d p' e hp hb rx ry hm q => ?_⟩
  unfold dII at hm
  split at hm
  · rename_i i j
    simp only [Rep] at rx ry
    split at hm
    · rename_i hc
      cases hm
      exact ⟨i, j, rx, ry, hC i j hc, q B H _ (Nxt.refl e) hp (hf ap B i j)⟩
    · cases hm
  · cases hm
theorem opD_II0 {op : Value → Value → Sem Value} {f : Int → Int → D} {fv : Int → Int → V} (h : OpR X op (rI0 fv)) (hf : ∀ ap B i j, Rep X.K cs ap B (f i j) (fv i j)) : OpD cs X op (dII (fun _ _ => true) f) := by
  refine ⟨_, h, fun ap B H p x y v u Q d p' e hp hb rx ry hm q => ?_⟩
  unfold dII at hm
  split at hm
  · rename_i i j
    simp only [Rep] at rx ry
    rw [if_pos rfl] at hm
    cases hm
    exact ⟨i, j, rx, ry, q B H _ (Nxt.refl e) hp (hf ap B i j)⟩
  · cases hm
def dAddI := dII (fun _ _ => true) fun i j => .int (i + j)
def dSubI := dII (fun _ _ => true) fun i j => .int (i - j)
def dMulI := dII (fun i j => decide (i.natAbs < bigN) && decide (j.natAbs < bigN)) fun i j => .int (i * j)
def dDivI := dII (fun _ j => decide (j ≠ 0) && decide (j.natAbs < bigN)) fun i j => .int (i.fdiv j)
def dModI := dII (fun _ j => decide (0 < j)) fun i j => .int (i % j)
def dPowI := dII (fun i j => decide (0 ≤ j) && (decide (j ≤ 1000000) && decide (i.natAbs < 2 ^ 64))) fun i j => .int (i ^ j.toNat)
def dLt := dII (fun _ _ => true) fun i j => .bl (decide (i < j))
def dLe := dII (fun _ _ => true) fun i j => .bl (decide (i ≤ j))
def dGt := dII (fun _ _ => true) fun i j => .bl (decide (j < i))
def dGe := dII (fun _ _ => true) fun i j => .bl (decide (j ≤ i))
theorem op_addI : OpD cs X (binaryOp .Add) dAddI := opD_II0 op_add fun _ _ _ _ => by simp only [Rep]
theorem op_subI : OpD cs X (binaryOp .Sub) dSubI := opD_II0 op_sub fun _ _ _ _ => by simp only [Rep]
theorem op_mulI : OpD cs X (binaryOp .Mult) dMulI := opD_II op_mulW (fun i j h => by
  rw [Bool.and_eq_true] at h
  have h1 := log_big (of_decide_eq_true h.1)
  have h2 := log_big (of_decide_eq_true h.2)
  unfold CMulW
  omega) fun _ _ _ _ => by simp only [Rep]
def CDivX (_ j : Int) : Prop := j ≠ 0 ∧ j.natAbs.log2 < 9000
theorem op_divX : OpR X (binaryOp .FloorDiv) (rI CDivX fun i j => .int (i.fdiv j)) := opI fun i j _ _ _ _ _ hc q => floordiv_int hc.1 q (.inl (PyProof.noPylong_of_log2 hc.2))
theorem op_divI : OpD cs X (binaryOp .FloorDiv) dDivI := opD_II op_divX (fun i j h => by
  rw [Bool.and_eq_true] at h
  have h2 := log_big (of_decide_eq_true h.2)
  exact ⟨of_decide_eq_true h.1, by omega⟩) fun _ _ _ _ => by simp only [Rep]
theorem op_modI : OpD cs X (binaryOp .Mod) dModI := opD_II op_mod (fun i j h => of_decide_eq_true h) fun _ _ _ _ => by simp only [Rep]
theorem op_powI : OpD cs X (binaryOp .Pow) dPowI := opD_II op_pow (fun i j h => by
  rw [Bool.and_eq_true, Bool.and_eq_true] at h
  exact ⟨of_decide_eq_true h.1, of_decide_eq_true h.2.1, of_decide_eq_true h.2.2⟩) fun _ _ _ _ => by simp only [Rep]
theorem op_ltI : OpD cs X (compareOp .Lt) dLt := opD_II0 op_lt fun _ _ _ _ => by simp only [Rep]
theorem op_leI : OpD cs X (compareOp .LtE) dLe := opD_II0 op_le fun _ _ _ _ => by simp only [Rep]
theorem op_gtI : OpD cs X (compareOp .Gt) dGt := opD_II0 op_gt fun _ _ _ _ => by simp only [Rep]
theorem op_geI : OpD cs X (compareOp .GtE) dGe := opD_II0 op_ge fun _ _ _ _ => by simp only [Rep]
/-- a new list as a datum -/
theorem KE.newL {K : PySem.W.Frag} {ap : Addr} {B H : Hp} {p : Pt} {ds : List D} {xs : List V} {Q : VK} (q : KE K cs ap B H p (.lst ds) Q) (e : Ex B H) (hp : PotAt ap H p) (r : Reps K cs ap B ds xs) : ∀ t, H t = none → Q (.ref t) (upd H t (.lst xs)) := by
  intro t ht
  have n : Nxt ap B H (upd B t (.lst xs)) (upd H t (.lst xs)) := Nxt.new e ht
  exact q _ _ _ n (hp.new ht) (by simp only [Rep]; exact ⟨t, xs, rfl, upd_same, r.mono n.bb⟩)
theorem KE.newT {K : PySem.W.Frag} {ap : Addr} {B H : Hp} {p : Pt} {ds : List D} {xs : List V} {Q : VK} (q : KE K cs ap B H p (.tup ds) Q) (e : Ex B H) (hp : PotAt ap H p) (r : Reps K cs ap B ds xs) : ∀ t, H t = none → Q (.ref t) (upd H t (.tup xs)) := by
  intro t ht
  have n : Nxt ap B H (upd B t (.tup xs)) (upd H t (.tup xs)) := Nxt.new e ht
  exact q _ _ _ n (hp.new ht) (by simp only [Rep]; exact ⟨t, xs, rfl, SqT.of upd_same, r.mono n.bb⟩)
/-- a list and a list -/
def dCatL : D → D → Mo D := fun x y => match x, y with
  | .lst a, .lst b => if a.length + b.length ≤ 100000 then retM (.lst (a ++ b)) else failM
  | _, _ => failM
theorem op_catL : OpD cs X (binaryOp .Add) dCatL := by
  refine ⟨_, op_cat, fun ap B H p x y v u Q d p' e hp hb rx ry hm q => ?_⟩
  unfold dCatL at hm
  split at hm
  · rename_i a b
    simp only [Rep] at rx ry
    obtain ⟨l, xs, rfl, h1, r1⟩ := rx
    obtain ⟨l', ys, rfl, h2, r2⟩ := ry
    split at hm
    · rename_i hz
      cases hm
      exact ⟨l, l', xs, ys, rfl, rfl, e _ _ h1, e _ _ h2, sz100 (by rw [r1.length, r2.length]; exact hz), q.newL e hp (r1.append r2)⟩
    · cases hm
  · cases hm
/-- a list, so many times -/
def repD (ds : List D) (k : Nat) : List D := (List.replicate k ds).flatten
theorem Reps.rep {K : PySem.W.Frag} {ap : Addr} {B : Hp} {ds : List D} {xs : List V} (h : Reps K cs ap B ds xs) : ∀ k, Reps K cs ap B (repD ds k) (List.replicate k xs).flatten
  | 0 => reps_nil
  | k + 1 => by
    unfold repD
    rw [List.replicate_succ, List.replicate_succ, List.flatten_cons, List.flatten_cons]
    exact h.append (Reps.rep h k)
def dRepL : D → D → Mo D := fun x y => match x, y with
  | .lst a, .int k => if k ≤ 100000 ∧ -100000 ≤ k ∧ a.length * k.toNat ≤ 100000 then retM (.lst (repD a k.toNat)) else failM
  | _, _ => failM
theorem op_repL : OpD cs X (binaryOp .Mult) dRepL := by
  refine ⟨_, op_rep, fun ap B H p x y v u Q d p' e hp hb rx ry hm q => ?_⟩
  unfold dRepL at hm
  split at hm
  · rename_i a k
    simp only [Rep] at rx ry
    obtain ⟨l, xs, rfl, h1, r1⟩ := rx
    split at hm
    · rename_i hz
      cases hm
      exact ⟨l, k, xs, rfl, ry, e _ _ h1, by omega, by omega, sz100 (by rw [r1.length]; exact hz.2.2), q.newL e hp (r1.rep k.toNat)⟩
    · cases hm
  · cases hm
/-- a tuple and a tuple, neither empty -/
def dCatT : D → D → Mo D := fun x y => match x, y with
  | .tup a, .tup b => if a ≠ [] ∧ b ≠ [] ∧ a.length + b.length ≤ 100000 then retM (.tup (a ++ b)) else failM
  | _, _ => failM
end
/-- new lists, as the def's own: the same by a POD -/
def oCat (a b : Env' → Mo D) : Env' → Mo (List D) := fun env => bindM (a env) fun x => bindM (b env) fun y => match x, y with
  | .lst a, .lst b => if a.length + b.length ≤ 100000 then retM (a ++ b) else failM
  | _, _ => failM
def oRep (a b : Env' → Mo D) : Env' → Mo (List D) := fun env => bindM (a env) fun x => bindM (b env) fun y => match x, y with
  | .lst a, .int k => if k ≤ 100000 ∧ -100000 ≤ k ∧ a.length * k.toNat ≤ 100000 then retM (repD a k.toNat) else failM
  | _, _ => failM
/-- a slice's part -/
def mNoP : Env' → Mo (Option Int) := fun _ => retM none
def mPart (a : Env' → Mo D) : Env' → Mo (Option Int) := fun env => bindM (a env) fun x => match x with
  | .int i => retM (some i)
  | _ => failM
def cutD (ds : List D) (lo hi : Option Int) : List D := (ds.drop (HT.sIx ds.length 0 lo)).take (HT.sIx ds.length ds.length hi - HT.sIx ds.length 0 lo)
def oSlice (a : Env' → Mo D) (lo hi : Env' → Mo (Option Int)) : Env' → Mo (List D) := fun env => bindM (a env) fun x => bindM (lo env) fun l => bindM (hi env) fun h => match x with
  | .lst ds => retM (cutD ds l h)
  | _ => failM
def oRev (a : Env' → Mo D) : Env' → Mo (List D) := fun env => bindM (a env) fun x => match x with
  | .lst ds => retM ds.reverse
  | _ => failM
/-- an item -/
def atD (x y : D) : Mo D := match x, y with
  | .lst ds, .int i => match atI ds i with
    | some d => retM d
    | none => failM
  | .tup ds, .int i => match atI ds i with
    | some d => retM d
    | none => failM
  | _, _ => failM
section
variable {cs : CT} {X : Cx} {e a b : Expr} {es : List Expr} {ma mb : Env' → Mo D} {pos : Pos}
/-- the end of a new list that stays unknown -/
theorem KO.new {K : PySem.W.Frag} {ap : Addr} {B H B1 H1 : Hp} {p : Pt} {ds : List D} {xs : List V} {Q : VK} (q : KO K cs ap B H p ds Q) (n : Nxt ap B H B1 H1) (hp : PotAt ap H1 p) (r : Reps K cs ap B1 ds xs) : ∀ t, H1 t = none → Q (.ref t) (upd H1 t (.lst xs)) := by
  intro t ht
  have ht0 : H t = none := by
    cases z : H t with
    | none => rfl
    | some o => exact absurd ht (n.nn t (by rw [z]; exact fun y => nomatch y))
  exact q _ _ t xs (n.trans (Nxt.newU n.bh ht)) (hp.new ht) ht0 (Evl.fresh_back n.bh ht) upd_same r
theorem o_cat (ha : PED cs X a ma) (hb : PED cs X b mb) : POD cs X (.BinOp a .Add b pos) (oCat ma mb) := by
  obtain ⟨ta, a1, a2⟩ := ha.ex
  obtain ⟨tb, b1, b2⟩ := hb.ex
  refine ⟨_, pe_op op_cat a1 b1, fun ap H0 B0 B σ env H p Q ds p' k hm q => ?_⟩
  obtain ⟨x, p1, e1, e2⟩ := bindM_some hm
  obtain ⟨y, p2, e3, e4⟩ := bindM_some e2
  split at e4
  · rename_i c d
    split at e4
    · rename_i hz
      cases e4
      refine a2 ap H0 B0 B σ env H p _ _ p1 k e1 fun B1 H1 v n1 hp1 r1 => ?_
      have k1 := k.nxt n1 hp1
      refine b2 ap H0 B0 B1 σ env H1 p1 _ _ p' k1 e3 fun B2 H2 u n2 hp2 r2 => ?_
      simp only [Rep] at r1 r2
      obtain ⟨l, xs, rfl, h1, r1⟩ := r1
      obtain ⟨l', ys, rfl, h2, r2⟩ := r2
      exact ⟨l, l', xs, ys, rfl, rfl, n2.bh _ _ (n2.bb _ _ h1), n2.bh _ _ h2, sz100 (by rw [r1.length, r2.length]; exact hz), q.new (n1.trans n2) hp2 ((r1.mono n2.bb).append r2)⟩
    · cases e4
  · cases e4
theorem o_rep (ha : PED cs X a ma) (hb : PED cs X b mb) : POD cs X (.BinOp a .Mult b pos) (oRep ma mb) := by
  obtain ⟨ta, a1, a2⟩ := ha.ex
  obtain ⟨tb, b1, b2⟩ := hb.ex
  refine ⟨_, pe_op op_rep a1 b1, fun ap H0 B0 B σ env H p Q ds p' k hm q => ?_⟩
  obtain ⟨x, p1, e1, e2⟩ := bindM_some hm
  obtain ⟨y, p2, e3, e4⟩ := bindM_some e2
  split at e4
  · rename_i c d
    split at e4
    · rename_i hz
      cases e4
      refine a2 ap H0 B0 B σ env H p _ _ p1 k e1 fun B1 H1 v n1 hp1 r1 => ?_
      have k1 := k.nxt n1 hp1
      refine b2 ap H0 B0 B1 σ env H1 p1 _ _ p' k1 e3 fun B2 H2 u n2 hp2 r2 => ?_
      simp only [Rep] at r1 r2
      obtain ⟨l, xs, rfl, h1, r1⟩ := r1
      exact ⟨l, _, xs, rfl, r2, n2.bh _ _ (n2.bb _ _ h1), by omega, by omega, sz100 (by rw [r1.length]; exact hz.2.2), q.new (n1.trans n2) hp2 ((r1.mono n2.bb).rep _)⟩
    · cases e4
  · cases e4
/-! ### subscripts, slices -/
theorem reps_at {K : PySem.W.Frag} {ap : Addr} {B : Hp} {ds : List D} {xs : List V} {i : Int} {d : D} (r : Reps K cs ap B ds xs) (h : atI ds i = some d) : ∃ w, atI xs i = some w ∧ Rep K cs ap B d w := by
  obtain ⟨j, hj1, hj2, hj3, hj4, hj5⟩ := atI_get h
  obtain ⟨w, hw1, hw2⟩ := r.get hj2
  refine ⟨w, ?_, hw2⟩
  unfold atI at h ⊢
  rw [r.length]
  cases z : ixN ds.length i with
  | none => rw [z] at h; cases h
  | some j' =>
    have e1 := (ixN_seq z).1
    rw [hj1] at e1
    cases e1
    exact hw1
theorem ix_ev {K : PySem.W.Frag} {ta tb : TE} (ha : EvE K cs ta ma) (hb : EvE K cs tb mb) : EvE K cs (tOp (rIx K) ta tb) (mBin atD ma mb) := by
  refine bin_ev ha hb fun ap B H p x y v u Q d p' e hp hbp rx ry hm q => ?_
  unfold atD at hm
  split at hm
  · rename_i ds i
    cases hd : atI ds i with
    | none => rw [hd] at hm; cases hm
    | some d' =>
      rw [hd] at hm
      cases hm
      simp only [Rep] at rx ry
      obtain ⟨l, xs, rfl, h1, r1⟩ := rx
      obtain ⟨w, g1, g2⟩ := reps_at r1 hd
      exact .inl ⟨l, xs, i, w, rfl, ry, SqL.of (e _ _ h1), g1, q B H w (Nxt.refl e) hp g2⟩
  · rename_i ds i
    cases hd : atI ds i with
    | none => rw [hd] at hm; cases hm
    | some d' =>
      rw [hd] at hm
      cases hm
      simp only [Rep] at rx ry
      obtain ⟨l, xs, rfl, h1, r1⟩ := rx
      obtain ⟨w, g1, g2⟩ := reps_at r1 hd
      exact .inr (.inl ⟨l, xs, i, w, rfl, ry, Evl.ex_t e h1, g1, q B H w (Nxt.refl e) hp g2⟩)
  · cases hm
theorem p_ix (ha : PED cs X a ma) (hb : PED cs X b mb) (hs : PlainIx b := by exact fun _ _ => rfl) : PED cs X (.Subscript a b pos) (mBin atD ma mb) := by
  obtain ⟨ta, a1, a2⟩ := ha.ex
  obtain ⟨tb, b1, b2⟩ := hb.ex
  exact ⟨_, pe_ix ix_seq a1 b1 hs, ix_ev a2 b2⟩
structure POx (cs : CT) (X : Cx) (e : Option Expr) (m : Env' → Mo (Option Int)) : Prop where
  ex : ∃ t, PO X e t ∧ ∀ ap H0 B0 B σ env H p (Q : Option Int → Hp → Prop) o p', Ok X.K cs ap H0 B0 B σ env H p → m env p = some (o, p') → (∀ B' H', Nxt ap B H B' H' → PotAt ap H' p' → Q o H') → t σ H Q
theorem x_none : POx cs X none mNoP := ⟨_, po_none, fun ap H0 B0 B σ env H p Q o p' k hm q => by cases hm; exact q B H (Nxt.refl k.bh) k.pot⟩
theorem x_some (h : PED cs X e ma) : POx cs X (some e) (mPart ma) := by
  obtain ⟨te, h1, h2⟩ := h.ex
  refine ⟨_, po_some h1, fun ap H0 B0 B σ env H p Q o p' k hm q => ?_⟩
  obtain ⟨x, p1, e1, e2⟩ := bindM_some hm
  cases x <;> first | (cases e2; done) | skip
  cases e2
  refine h2 ap H0 B0 B σ env H p _ _ p' k e1 fun B1 H1 v n1 hp1 r1 => ?_
  simp only [Rep] at r1
  exact ⟨_, r1, q B1 H1 n1 hp1⟩
theorem cut_eq {K : PySem.W.Frag} {ap : Addr} {B : Hp} {ds : List D} {xs : List V} (r : Reps K cs ap B ds xs) (lo hi : Option Int) : Reps K cs ap B (cutD ds lo hi) (cutV xs lo hi) := by
  unfold cutD cutV
  rw [r.length]
  exact (r.drop _).take _
theorem o_slice {lo hi : Option Expr} {p2 : Pos} {ml mh : Env' → Mo (Option Int)} (ha : PED cs X a ma) (hl : POx cs X lo ml) (hh : POx cs X hi mh) : POD cs X (.Subscript a (.Slice lo hi none p2) pos) (oSlice ma ml mh) := by
  obtain ⟨ta, a1, a2⟩ := ha.ex
  obtain ⟨tl, l1, l2⟩ := hl.ex
  obtain ⟨th, u1, u2⟩ := hh.ex
  refine ⟨_, pe_slice sl_list a1 l1 u1, fun ap H0 B0 B σ env H p Q ds p' k hm q => ?_⟩
  obtain ⟨x, p1, e1, e2⟩ := bindM_some hm
  obtain ⟨l, p2, e3, e4⟩ := bindM_some e2
  obtain ⟨u, p3, e5, e6⟩ := bindM_some e4
  split at e6
  · rename_i es
    cases e6
    refine a2 ap H0 B0 B σ env H p _ _ p1 k e1 fun B1 H1 v n1 hp1 r1 => ?_
    have k1 := k.nxt n1 hp1
    refine l2 ap H0 B0 B1 σ env H1 p1 _ _ p2 k1 e3 fun B2 H2 n2 hp2 => ?_
    have k2 := k1.nxt n2 hp2
    refine u2 ap H0 B0 B2 σ env H2 p2 _ _ p' k2 e5 fun B3 H3 n3 hp3 => ?_
    simp only [Rep] at r1
    obtain ⟨t, xs, rfl, h1, r1⟩ := r1
    have n23 := n2.trans n3
    exact ⟨t, xs, rfl, SqL.of (n23.bh _ _ (n23.bb _ _ h1)), q.new (n1.trans n23) hp3 (cut_eq (r1.mono n23.bb) l u)⟩
  · cases e6
theorem o_rev {k1 : Nat} {p1 p2 p3 : Pos} (ha : PED cs X a ma) : POD cs X (.Subscript a (.Slice none none (some (.UnaryOp .USub (.Constant (.int 1) k1 p1) p2)) p3) pos) (oRev ma) := by
  obtain ⟨ta, a1, a2⟩ := ha.ex
  refine ⟨_, pe_revL a1, fun ap H0 B0 B σ env H p Q ds p' k hm q => ?_⟩
  obtain ⟨x, p4, e1, e2⟩ := bindM_some hm
  split at e2
  · rename_i es
    cases e2
    refine a2 ap H0 B0 B σ env H p _ _ p' k e1 fun B1 H1 v n1 hp1 r1 => ?_
    simp only [Rep] at r1
    obtain ⟨t, xs, rfl, h1, r1⟩ := r1
    exact ⟨t, xs, rfl, SqL.of (n1.bh _ _ h1), q.new n1 hp1 r1.reverse⟩
  · cases e2
/-! ### calls of built-ins -/
def CaD (cs : CT) (X : Cx) (f : Value) (m : List D → Mo D) : Prop :=
  ∃ r, CallR X f r ∧ ∀ ap B H p ds vs (Q : VK) d p', Ex B H → PotAt ap H p → B ap = none → Reps X.K cs ap B ds vs → m ds p = some (d, p') → KE X.K cs ap B H p' d Q → r vs H Q
theorem ca_ev {K : PySem.W.Frag} {r : List V → Hp → VK → Prop} {t : TA} {m : Env' → Mo (List D)} {f : List D → Mo D} (h : EvA K cs t m)
    (hr : ∀ ap B H p ds vs (Q : VK) d p', Ex B H → PotAt ap H p → B ap = none → Reps K cs ap B ds vs → f ds p = some (d, p') → KE K cs ap B H p' d Q → r vs H Q) : EvE K cs (tCB r t) (mCall f m) := by
  intro ap H0 B0 B σ env H p Q d p' k hm q
  obtain ⟨ds, p1, e1, e2⟩ := bindM_some hm
  refine h ap H0 B0 B σ env H p _ ds p1 k e1 fun B1 H1 vs n1 hp1 r1 => ?_
  have k1 := k.nxt n1 hp1
  exact hr ap B1 H1 p1 ds vs Q d p' k1.bh hp1 k1.bap r1 e2 fun B' H' v n2 hp2 r2 => q B' H' v (n1.trans n2) hp2 r2
variable {x : Str} {p : Pos} {m : Env' → Mo (List D)} {fm : List D → Mo D}
theorem p_bltn {id : String} (hc : CaD cs X (.builtin id) fm) (hm : X.mg x = none) (ha : PAD cs X (e :: es) m) (hv : bootBuiltins x = some (.builtin id) := by decide +kernel) (hg : Gl X x := by rfl) (hn : x ≠ "__name__" := by decide) (hdb : (x == ("__debug__" : Str)) = false := by decide)
    (he : starEach (e :: es) X.env = (false, eval e X.env) :: starEach es X.env := by rfl) (hpl : (backTo pos (starEach es X.env)).any (·.1) = false := by rfl) : PED cs X (.Call (.Name x p) (e :: es) [] pos) (mCall fm m) := by
  obtain ⟨ta, a1, a2⟩ := ha.ex
  obtain ⟨r, h1, h2⟩ := hc
  exact ⟨_, pe_callB h1 hg hm hv a1 hn hdb he hpl, ca_ev a2 h2⟩
theorem p_type {T : String} (hc : CaD cs X (.type T) fm) (hm : X.mg x = none) (ha : PAD cs X (e :: es) m) (hv : bootBuiltins x = some (.type T) := by decide +kernel) (hg : Gl X x := by rfl) (hn : x ≠ "__name__" := by decide) (hdb : (x == ("__debug__" : Str)) = false := by decide)
    (he : starEach (e :: es) X.env = (false, eval e X.env) :: starEach es X.env := by rfl) (hpl : (backTo pos (starEach es X.env)).any (·.1) = false := by rfl) : PED cs X (.Call (.Name x p) (e :: es) [] pos) (mCall fm m) := by
  obtain ⟨ta, a1, a2⟩ := ha.ex
  obtain ⟨r, h1, h2⟩ := hc
  exact ⟨_, pe_callTy h1 hg hm hv a1 hn hdb he hpl, ca_ev a2 h2⟩
/-- a module's name for a built-in -/
theorem p_bfun {id : String} (hc : CaD cs X (.builtin id) fm) (hm : X.mg x = some (.builtin id)) (ha : PAD cs X (e :: es) m) (hg : Gl X x := by rfl) (hdb : (x == ("__debug__" : Str)) = false := by decide)
    (he : starEach (e :: es) X.env = (false, eval e X.env) :: starEach es X.env := by rfl) (hpl : (backTo pos (starEach es X.env)).any (·.1) = false := by rfl) : PED cs X (.Call (.Name x p) (e :: es) [] pos) (mCall fm m) := by
  obtain ⟨ta, a1, a2⟩ := ha.ex
  obtain ⟨r, h1, h2⟩ := hc
  exact ⟨_, pe_callBfun h1 hg hm a1 hdb he hpl, ca_ev a2 h2⟩
def cLen : List D → Mo D
  | [.lst ds] => retM (.int (ds.length : Nat))
  | [.tup ds] => retM (.int (ds.length : Nat))
  | _ => failM
theorem reps1 {K : PySem.W.Frag} {ap : Addr} {B : Hp} {d : D} {vs : List V} (h : Reps K cs ap B [d] vs) : ∃ v, vs = [v] ∧ Rep K cs ap B d v := by
  simp only [Reps] at h
  obtain ⟨x, _, rfl, h1, rfl⟩ := h
  exact ⟨x, rfl, h1⟩
theorem reps2 {K : PySem.W.Frag} {ap : Addr} {B : Hp} {d e : D} {vs : List V} (h : Reps K cs ap B [d, e] vs) : ∃ v w, vs = [v, w] ∧ Rep K cs ap B d v ∧ Rep K cs ap B e w := by
  simp only [Reps] at h
  obtain ⟨x, _, rfl, h1, y, _, rfl, h2, rfl⟩ := h
  exact ⟨x, y, rfl, h1, h2⟩
theorem ca_len : CaD cs X (.builtin "len") cLen := by
  refine ⟨_, call_len_seq, fun ap B H p ds vs Q d p' e hp hb r hm q => ?_⟩
  unfold cLen at hm
  split at hm
  · cases hm
    obtain ⟨v, rfl, rv⟩ := reps1 r
    simp only [Rep] at rv
    obtain ⟨a, xs, rfl, h1, r1⟩ := rv
    exact ⟨a, xs, rfl, .inl (SqL.of (e _ _ h1)), q B H _ (Nxt.refl e) hp (by simp only [Rep, r1.length])⟩
  · cases hm
    obtain ⟨v, rfl, rv⟩ := reps1 r
    simp only [Rep] at rv
    obtain ⟨a, xs, rfl, h1, r1⟩ := rv
    exact ⟨a, xs, rfl, .inr (Evl.ex_t e h1), q B H _ (Nxt.refl e) hp (by simp only [Rep, r1.length])⟩
  · cases hm
def cAbs : List D → Mo D
  | [.int i] => retM (.int (if i < 0 then -i else i))
  | _ => failM
theorem ca_abs : CaD cs X (.builtin "abs") cAbs := by
  refine ⟨_, call_abs, fun ap B H p ds vs Q d p' e hp hb r hm q => ?_⟩
  unfold cAbs at hm
  split at hm
  · cases hm
    obtain ⟨v, rfl, rv⟩ := reps1 r
    simp only [Rep] at rv
    exact ⟨_, by rw [rv], q B H _ (Nxt.refl e) hp (by simp only [Rep])⟩
  · cases hm
def cMax2 : List D → Mo D
  | [.int i, .int j] => retM (.int (if j > i then j else i))
  | _ => failM
theorem ca_max2 (hc : X.calm = true) : CaD cs X (.builtin "max") cMax2 := by
  refine ⟨_, call_max2 hc, fun ap B H p ds vs Q d p' e hp hb r hm q => ?_⟩
  unfold cMax2 at hm
  split at hm
  · cases hm
    obtain ⟨v, w, rfl, rv, rw'⟩ := reps2 r
    simp only [Rep] at rv rw'
    exact ⟨_, _, by rw [rv, rw'], q B H _ (Nxt.refl e) hp (by simp only [Rep])⟩
  · cases hm
def cMin2 : List D → Mo D
  | [.int i, .int j] => retM (.int (if j < i then j else i))
  | _ => failM
theorem ca_min2 (hc : X.calm = true) : CaD cs X (.builtin "min") cMin2 := by
  refine ⟨_, call_min2 hc, fun ap B H p ds vs Q d p' e hp hb r hm q => ?_⟩
  unfold cMin2 at hm
  split at hm
  · cases hm
    obtain ⟨v, w, rfl, rv, rw'⟩ := reps2 r
    simp only [Rep] at rv rw'
    exact ⟨_, _, by rw [rv, rw'], q B H _ (Nxt.refl e) hp (by simp only [Rep])⟩
  · cases hm
def cInt : List D → Mo D
  | [.int i] => retM (.int i)
  | [.bl b] => retM (.int (if b then 1 else 0))
  | _ => failM
theorem ca_int : CaD cs X (.type "int") cInt := by
  refine ⟨_, call_int1, fun ap B H p ds vs Q d p' e hp hb r hm q => ?_⟩
  unfold cInt at hm
  split at hm
  · cases hm
    obtain ⟨v, rfl, rv⟩ := reps1 r
    simp only [Rep] at rv
    exact .inl ⟨_, by rw [rv], q B H _ (Nxt.refl e) hp (by simp only [Rep])⟩
  · cases hm
    obtain ⟨v, rfl, rv⟩ := reps1 r
    simp only [Rep] at rv
    exact .inr ⟨_, by rw [rv], q B H _ (Nxt.refl e) hp (by simp only [Rep])⟩
  · cases hm
def cGcd : List D → Mo D
  | [.int i, .int j] => retM (.int ((Nat.gcd i.natAbs j.natAbs : Nat) : Int))
  | _ => failM
theorem ca_gcd : CaD cs X (.builtin "math.gcd") cGcd := by
  refine ⟨_, cr_gcd, fun ap B H p ds vs Q d p' e hp hb r hm q => ?_⟩
  unfold cGcd at hm
  split at hm
  · cases hm
    obtain ⟨v, w, rfl, rv, rw'⟩ := reps2 r
    simp only [Rep] at rv rw'
    exact ⟨_, _, by rw [rv, rw'], q B H _ (Nxt.refl e) hp (by simp only [Rep])⟩
  · cases hm
/-- the truths of a list of bools -/
def blsD : List D → Option (List Bool)
  | [] => some []
  | .bl b :: r => match blsD r with
    | some bs => some (b :: bs)
    | none => none
  | _ => none
theorem reps_bls {K : PySem.W.Frag} {ap : Addr} {B : Hp} : ∀ {ds : List D} {vs : List V} {bs : List Bool}, Reps K cs ap B ds vs → blsD ds = some bs → vs = bs.map V.bl
  | [], vs, bs, h, e => by
    simp only [Reps] at h
    cases e
    exact h
  | d :: ds, vs, bs, h, e => by
    simp only [Reps] at h
    obtain ⟨x, r, rfl, h1, h2⟩ := h
    cases d <;> first | (cases e; done) | skip
    rename_i b
    simp only [Rep] at h1
    unfold blsD at e
    cases z : blsD ds with
    | none => rw [z] at e; cases e
    | some cs' =>
      rw [z] at e
      cases e
      rw [h1, reps_bls h2 z]
      rfl
def cAll : List D → Mo D
  | [.lst ds] => match blsD ds with
    | some bs => retM (.bl (bs.all id))
    | none => failM
  | _ => failM
theorem ca_all (hc : X.calm = true) : CaD cs X (.builtin "all") cAll := by
  refine ⟨_, cr_all hc, fun ap B H p ds vs Q d p' e hp hb r hm q => ?_⟩
  unfold cAll at hm
  split at hm
  · rename_i ds
    cases z : blsD ds with
    | none => rw [z] at hm; cases hm
    | some bs =>
      rw [z] at hm
      cases hm
      obtain ⟨v, rfl, rv⟩ := reps1 r
      simp only [Rep] at rv
      obtain ⟨a, xs, rfl, h1, r1⟩ := rv
      rw [reps_bls r1 z] at h1
      exact ⟨a, bs, rfl, SqL.of (e _ _ h1), q B H _ (Nxt.refl e) hp (by simp only [Rep])⟩
  · cases hm
def cAny : List D → Mo D
  | [.lst ds] => match blsD ds with
    | some bs => retM (.bl (bs.any id))
    | none => failM
  | _ => failM
theorem ca_any (hc : X.calm = true) : CaD cs X (.builtin "any") cAny := by
  refine ⟨_, cr_any hc, fun ap B H p ds vs Q d p' e hp hb r hm q => ?_⟩
  unfold cAny at hm
  split at hm
  · rename_i ds
    cases z : blsD ds with
    | none => rw [z] at hm; cases hm
    | some bs =>
      rw [z] at hm
      cases hm
      obtain ⟨v, rfl, rv⟩ := reps1 r
      simp only [Rep] at rv
      obtain ⟨a, xs, rfl, h1, r1⟩ := rv
      rw [reps_bls r1 z] at h1
      exact ⟨a, bs, rfl, SqL.of (e _ _ h1), q B H _ (Nxt.refl e) hp (by simp only [Rep])⟩
  · cases hm
/-- list(x): a new list -/
def oListC : List D → Mo (List D)
  | [.lst ds] => retM ds
  | [.tup ds] => retM ds
  | _ => failM
theorem o_listOf {p : Pos} (hm : X.mg "list" = none) (ha : PAD cs X [e] m) (hg : Gl X "list" := by rfl) (he : starEach [e] X.env = (false, eval e X.env) :: starEach [] X.env := by rfl) : POD cs X (.Call (.Name "list" p) [e] [] pos) (mCallO oListC m) := by
  obtain ⟨ta, a1, a2⟩ := ha.ex
  refine ⟨_, pe_callTy call_list_of hg hm (by decide +kernel) a1 (by decide) (by decide) he, fun ap H0 B0 B σ env H p Q ds p' k hm q => ?_⟩
  obtain ⟨es, p1, e1, e2⟩ := bindM_some hm
  unfold oListC at e2
  split at e2
  · cases e2
    refine a2 ap H0 B0 B σ env H p _ _ p' k e1 fun B1 H1 vs n1 hp1 r1 => ?_
    obtain ⟨v, rfl, rv⟩ := reps1 r1
    simp only [Rep] at rv
    obtain ⟨a, xs, rfl, h1, r1⟩ := rv
    exact ⟨a, xs, rfl, .inl (SqL.of (n1.bh _ _ h1)), q.new n1 hp1 r1⟩
  · cases e2
    refine a2 ap H0 B0 B σ env H p _ _ p' k e1 fun B1 H1 vs n1 hp1 r1 => ?_
    obtain ⟨v, rfl, rv⟩ := reps1 r1
    simp only [Rep] at rv
    obtain ⟨a, xs, rfl, h1, r1⟩ := rv
    exact ⟨a, xs, rfl, .inr (Evl.ex_t n1.bh h1), q.new n1 hp1 r1⟩
  · cases e2
def cTup : List D → Mo D
  | [.lst ds] => retM (.tup ds)
  | [.tup ds] => retM (.tup ds)
  | _ => failM
theorem ca_tup : CaD cs X (.type "tuple") cTup := by
  refine ⟨_, call_tuple_of, fun ap B H p ds vs Q d p' e hp hb r hm q => ?_⟩
  unfold cTup at hm
  split at hm
  · cases hm
    obtain ⟨v, rfl, rv⟩ := reps1 r
    simp only [Rep] at rv
    obtain ⟨a, xs, rfl, h1, r1⟩ := rv
    exact ⟨a, xs, rfl, .inl ⟨SqL.of (e _ _ h1), q.newT e hp r1⟩⟩
  · cases hm
    obtain ⟨v, rfl, rv⟩ := reps1 r
    have rv' := rv
    simp only [Rep] at rv
    obtain ⟨a, xs, rfl, h1, r1⟩ := rv
    exact ⟨a, xs, rfl, .inr ⟨Evl.ex_t e h1, q B H _ (Nxt.refl e) hp rv'⟩⟩
  · cases hm
end
end DL
end

section
set_option Elab.async false
set_option linter.all false
set_option maxRecDepth 100000
set_option maxHeartbeats 4000000
/-! DL: what is only looked at, comprehensions, what is walked, own lists changed. -/
namespace DL
open PySem PySem.Spec PyProof.Rows L2
open Evl (Ex)

/-- a datum, or a list of the def's own that is looked at -/
def RepB (K : PySem.W.Frag) (cs : CT) (ap : Addr) (B H : Hp) (d : D) (v : V) : Prop := Rep K cs ap B d v ∨ ∃ ds a xs, d = .lst ds ∧ v = .ref a ∧ a ≠ ap ∧ H a = some (.lst xs) ∧ Reps K cs ap B ds xs
theorem RepB.nxt {K : PySem.W.Frag} {cs : CT} {ap : Addr} {B H B' H' : Hp} {d : D} {v : V} (r : RepB K cs ap B H d v) (n : Nxt ap B H B' H') : RepB K cs ap B' H' d v := by
  rcases r with r | ⟨ds, a, xs, rfl, rfl, ha, h, r⟩
  · exact .inl (r.mono n.bb)
  · exact .inr ⟨ds, a, xs, rfl, rfl, ha, n.fr _ _ h ha, r.mono n.bb⟩
/-- a list to be read -/
theorem RepB.lst {K : PySem.W.Frag} {cs : CT} {ap : Addr} {B H : Hp} {ds : List D} {v : V} (r : RepB K cs ap B H (.lst ds) v) (e : Ex B H) : ∃ a xs, v = .ref a ∧ H a = some (.lst xs) ∧ Reps K cs ap B ds xs := by
  rcases r with r | ⟨ds', a, xs, h, rfl, _, hh, r⟩
  · simp only [Rep] at r
    obtain ⟨a, xs, rfl, h1, h2⟩ := r
    exact ⟨a, xs, rfl, e _ _ h1, h2⟩
  · cases h
    exact ⟨a, xs, rfl, hh, r⟩
def KB (K : PySem.W.Frag) (cs : CT) (ap : Addr) (B H : Hp) (p' : Pt) (d : D) (Q : VK) : Prop := ∀ B' H' v, Nxt ap B H B' H' → PotAt ap H' p' → RepB K cs ap B' H' d v → Q v H'
def EvB (K : PySem.W.Frag) (cs : CT) (te : TE) (m : Env' → Mo D) : Prop := ∀ ap H0 B0 B σ env H p (Q : VK) d p', Ok K cs ap H0 B0 B σ env H p → m env p = some (d, p') → KB K cs ap B H p' d Q → te σ H Q
structure PBD (cs : CT) (X : Cx) (e : Expr) (m : Env' → Mo D) : Prop where
  ex : ∃ te, PE X e te ∧ EvB X.K cs te m
def mVarB (i : Nat) : Env' → Mo D := fun env => match env[i]? with
  | some (.val d) => retM d
  | some (.own ds) => retM (.lst ds)
  | _ => failM
section
variable {cs : CT} {X : Cx} {e a b : Expr} {es : List Expr} {m ma mb : Env' → Mo D} {pos : Pos}
theorem PED.bo (h : PED cs X e m) : PBD cs X e m := by
  obtain ⟨te, h1, h2⟩ := h.ex
  exact ⟨te, h1, fun ap H0 B0 B σ env H p Q d p' k hm q => h2 ap H0 B0 B σ env H p Q d p' k hm fun B' H' v n hp r => q B' H' v n hp (.inl r)⟩
theorem b_var (i : Nat) {x : Str} (hN : X.N[i]? = some x := by rfl) (hv : Vis X.env.scope x := by first | exact Or.inl rfl | exact Or.inr (Or.inl rfl) | exact Or.inr (Or.inr rfl)) (hd : (x == ("__debug__" : Str)) = false := by decide)
    (hcd : (x == ("__classdict__" : Str)) = false := by decide) : PBD cs X (.Name x pos) (mVarB i) := by
  refine ⟨tVar i, pe_var hN hv hd hcd, fun ap H0 B0 B σ env H p Q d p' k hm q => ?_⟩
  unfold mVarB at hm
  rcases g : env[i]? with _ | _ | d' | ds | _
  · rw [g] at hm; cases hm
  · rw [g] at hm; cases hm
  · rw [g] at hm
    cases hm
    obtain ⟨v, h1, h2⟩ := k.sl i _ g
    exact ⟨v, h1, q B H v (Nxt.refl k.bh) k.pot (.inl h2)⟩
  · rw [g] at hm
    cases hm
    obtain ⟨a, xs, h1, h2, h3, h4⟩ := k.sl i _ g
    exact ⟨.ref a, h1, q B H _ (Nxt.refl k.bh) k.pot (.inr ⟨ds, a, xs, rfl, rfl, fun z => k.hap (z ▸ k.ownNew i ds a g h1), h3, h4⟩)⟩
  · rw [g] at hm; cases hm
theorem ixB_ev {K : PySem.W.Frag} {ta tb : TE} (ha : EvB K cs ta ma) (hb : EvE K cs tb mb) : EvE K cs (tOp (rIx K) ta tb) (mBin atD ma mb) := by
  intro ap H0 B0 B σ env H p Q d p' k hm q
  obtain ⟨x, p1, e1, e2⟩ := bindM_some hm
  obtain ⟨y, p2, e3, e4⟩ := bindM_some e2
  refine ha ap H0 B0 B σ env H p _ x p1 k e1 fun B1 H1 v n1 hp1 r1 => ?_
  have k1 := k.nxt n1 hp1
  refine hb ap H0 B0 B1 σ env H1 p1 _ y p2 k1 e3 fun B2 H2 u n2 hp2 r2 => ?_
  have k2 := k1.nxt n2 hp2
  have r1' := r1.nxt n2
  unfold atD at e4
  split at e4
  · rename_i ds i
    cases hd : atI ds i with
    | none => rw [hd] at e4; cases e4
    | some d' =>
      rw [hd] at e4
      cases e4
      obtain ⟨l, xs, rfl, h1, rr⟩ := r1'.lst k2.bh
      simp only [Rep] at r2
      obtain ⟨w, g1, g2⟩ := reps_at rr hd
      exact .inl ⟨l, xs, i, w, rfl, r2, SqL.of h1, g1, q B2 H2 w (n1.trans n2) hp2 g2⟩
  · rename_i ds i
    cases hd : atI ds i with
    | none => rw [hd] at e4; cases e4
    | some d' =>
      rw [hd] at e4
      cases e4
      rcases r1' with rr | ⟨_, _, _, h, _⟩
      · simp only [Rep] at rr r2
        obtain ⟨l, xs, rfl, h1, rr⟩ := rr
        obtain ⟨w, g1, g2⟩ := reps_at rr hd
        exact .inr (.inl ⟨l, xs, i, w, rfl, r2, Evl.ex_t k2.bh h1, g1, q B2 H2 w (n1.trans n2) hp2 g2⟩)
      · cases h
  · cases e4
theorem p_ixB (ha : PBD cs X a ma) (hb : PED cs X b mb) (hs : PlainIx b := by exact fun _ _ => rfl) : PED cs X (.Subscript a b pos) (mBin atD ma mb) := by
  obtain ⟨ta, a1, a2⟩ := ha.ex
  obtain ⟨tb, b1, b2⟩ := hb.ex
  exact ⟨_, pe_ix ix_seq a1 b1 hs, ixB_ev a2 b2⟩
/-- len(..) of what is only looked at -/
def mLen (a : Env' → Mo D) : Env' → Mo D := fun env => bindM (a env) fun x => cLen [x]
theorem p_lenB {p : Pos} (hm : X.mg "len" = none) (ha : PBD cs X e ma) (hg : Gl X "len" := by rfl) (hs : starEach [e] X.env = (false, eval e X.env) :: starEach [] X.env := by rfl) : PED cs X (.Call (.Name "len" p) [e] [] pos) (mLen ma) := by
  obtain ⟨ta, a1, a2⟩ := ha.ex
  refine ⟨_, pe_callB call_len_seq hg hm (by decide +kernel) (L2.pa_cons a1 L2.pa_nil hs) (by decide) (by decide) hs, fun ap H0 B0 B σ env H p Q d p' k hm q => ?_⟩
  obtain ⟨x, p1, e1, e2⟩ := bindM_some hm
  refine a2 ap H0 B0 B σ env H p _ x p1 k e1 fun B1 H1 v n1 hp1 r1 => ?_
  have k1 := k.nxt n1 hp1
  cases x <;> first | (cases e2; done) | skip
  · cases e2
    obtain ⟨l, xs, rfl, h1, rr⟩ := r1.lst k1.bh
    exact ⟨l, xs, rfl, .inl (SqL.of h1), q B1 H1 _ n1 hp1 (by simp only [Rep, rr.length])⟩
  · cases e2
    rcases r1 with rr | ⟨_, _, _, h, _⟩
    · simp only [Rep] at rr
      obtain ⟨l, xs, rfl, h1, rr⟩ := rr
      exact ⟨l, xs, rfl, .inr (Evl.ex_t k1.bh h1), q B1 H1 _ n1 hp1 (by simp only [Rep, rr.length])⟩
    · cases h
theorem oSliceB {lo hi : Option Expr} {p2 : Pos} {ml mh : Env' → Mo (Option Int)} (ha : PBD cs X a ma) (hl : POx cs X lo ml) (hh : POx cs X hi mh) : POD cs X (.Subscript a (.Slice lo hi none p2) pos) (oSlice ma ml mh) := by
  obtain ⟨ta, a1, a2⟩ := ha.ex
  obtain ⟨tl, l1, l2⟩ := hl.ex
  obtain ⟨th, u1, u2⟩ := hh.ex
  refine ⟨_, pe_slice sl_list a1 l1 u1, fun ap H0 B0 B σ env H p Q ds p' k hm q => ?_⟩
  obtain ⟨x, p1, e1, e2⟩ := bindM_some hm
  obtain ⟨l, p2, e3, e4⟩ := bindM_some e2
  obtain ⟨u, p3, e5, e6⟩ := bindM_some e4
  split at e6
  · rename_i es
    cases e6
    refine a2 ap H0 B0 B σ env H p _ _ p1 k e1 fun B1 H1 v n1 hp1 r1 => ?_
    have k1 := k.nxt n1 hp1
    refine l2 ap H0 B0 B1 σ env H1 p1 _ _ p2 k1 e3 fun B2 H2 n2 hp2 => ?_
    have k2 := k1.nxt n2 hp2
    refine u2 ap H0 B0 B2 σ env H2 p2 _ _ p' k2 e5 fun B3 H3 n3 hp3 => ?_
    have n23 := n2.trans n3
    obtain ⟨t, xs, rfl, h1, rr⟩ := (r1.nxt n23).lst n23.bh
    exact ⟨t, xs, rfl, SqL.of h1, q.new (n1.trans n23) hp3 (cut_eq rr l u)⟩
  · cases e6
theorem oRevB {k1 : Nat} {p1 p2 p3 : Pos} (ha : PBD cs X a ma) : POD cs X (.Subscript a (.Slice none none (some (.UnaryOp .USub (.Constant (.int 1) k1 p1) p2)) p3) pos) (oRev ma) := by
  obtain ⟨ta, a1, a2⟩ := ha.ex
  refine ⟨_, pe_revL a1, fun ap H0 B0 B σ env H p Q ds p' k hm q => ?_⟩
  obtain ⟨x, p4, e1, e2⟩ := bindM_some hm
  split at e2
  · rename_i es
    cases e2
    refine a2 ap H0 B0 B σ env H p _ _ p' k e1 fun B1 H1 v n1 hp1 r1 => ?_
    obtain ⟨t, xs, rfl, h1, rr⟩ := r1.lst n1.bh
    exact ⟨t, xs, rfl, SqL.of h1, q.new n1 hp1 rr.reverse⟩
  · cases e2

/-! ### what is walked -/
def srcL (a : Env' → Mo D) : Env' → Mo (List D) := fun env => bindM (a env) fun x => match x with
  | .lst ds => retM ds
  | _ => failM
theorem wk_list {K : PySem.W.Frag} {ap : Addr} {B H : Hp} {t : Addr} {xs : List V} {ds : List D} (h : H t = some (.lst xs)) (r : Reps K cs ap B ds xs) (e : Ex B H) : Wk K cs ap (Itl K t) ds B H := by
  intro i
  refine ⟨fun d hd => ?_, fun hi => ⟨xs, SqL.of h, by rw [r.length]; exact hi⟩⟩
  obtain ⟨x, hx, rx⟩ := r.get hd
  refine ⟨⟨xs, x, SqL.of h, hx⟩, fun y H' hy => ?_⟩
  obtain ⟨rfl, hy⟩ := hy
  have h2 := hy xs (SqL.of h)
  rw [hx] at h2
  cases h2
  exact ⟨B, Nxt.refl e, fun _ => rfl, rx⟩
theorem i_list {tg : Expr} (h : PED cs X e ma) : PID cs X tg e (srcL ma) := by
  obtain ⟨te, h1, h2⟩ := h.ex
  refine ⟨_, pi_list h1, fun ap H0 B0 B σ env H p R ds p' k hm q => ?_⟩
  obtain ⟨x, p1, e1, e2⟩ := bindM_some hm
  cases x <;> first | (cases e2; done) | skip
  cases e2
  refine h2 ap H0 B0 B σ env H p _ _ p' k e1 fun B1 H1 v n1 hp1 r1 => ?_
  simp only [Rep] at r1
  obtain ⟨t, xs, rfl, h3, rr⟩ := r1
  exact ⟨t, rfl, ⟨xs, SqL.of (n1.bh _ _ h3)⟩, q B1 H1 _ n1 hp1 fun B2 H2 b1 b2 => wk_list (b2 _ _ (b1 _ _ h3)) (rr.mono b1) b2⟩
theorem j_list {tg : Expr} (h : PBD cs X e ma) : PJD cs X tg e (srcL ma) := by
  obtain ⟨te, h1, h2⟩ := h.ex
  refine ⟨_, pi_list h1, fun ap H0 B0 B σ env H p R ds p' k hm q => ?_⟩
  obtain ⟨x, p1, e1, e2⟩ := bindM_some hm
  cases x <;> first | (cases e2; done) | skip
  cases e2
  refine h2 ap H0 B0 B σ env H p _ _ p' k e1 fun B1 H1 v n1 hp1 r1 => ?_
  obtain ⟨t, xs, rfl, h3, rr⟩ := r1.lst n1.bh
  refine ⟨t, rfl, ⟨xs, SqL.of h3⟩, q B1 H1 _ n1 hp1 fun B2 H2 n2 => ?_⟩
  obtain ⟨t', xs', e5, h5, rr'⟩ := (r1.nxt n2).lst n2.bh
  cases e5
  exact wk_list h5 rr' n2.bh
def srcT (a : Env' → Mo D) : Env' → Mo (List D) := fun env => bindM (a env) fun x => match x with
  | .tup ds => retM ds
  | _ => failM
theorem wk_tup' {K : PySem.W.Frag} {ap : Addr} {B H : Hp} {t : Addr} {xs : List V} {ds : List D} {pins : List (Addr × Obj)} (h : SqT K H t xs) (hi : ∀ ys, SqT K H t ys → ys = xs) (r : Reps K cs ap B ds xs) (e : Ex B H) : Wk K cs ap (Itt K t) ds B H := by
  intro i
  refine ⟨fun d hd => ?_, fun hi => ⟨xs, h, by rw [r.length]; exact hi⟩⟩
  obtain ⟨x, hx, rx⟩ := r.get hd
  refine ⟨⟨xs, x, h, hx⟩, fun y H' hy => ?_⟩
  obtain ⟨rfl, hy⟩ := hy
  have h2 := hy xs h
  rw [hx] at h2
  cases h2
  exact ⟨B, Nxt.refl e, fun _ => rfl, rx⟩
theorem i_tup {tg : Expr} (h : PED cs X e ma) : PID cs X tg e (srcT ma) := by
  obtain ⟨te, h1, h2⟩ := h.ex
  refine ⟨_, pi_tup h1, fun ap H0 B0 B σ env H p R ds p' k hm q => ?_⟩
  obtain ⟨x, p1, e1, e2⟩ := bindM_some hm
  have fin : ∀ {B1 H1 : Hp} {t : Addr} {xs : List V} {ds : List D}, SqT X.K B1 t xs → Reps X.K cs ap B1 ds xs → ∀ B2 H2, Ex B1 B2 → Ex B2 H2 → Wk X.K cs ap (Itt X.K t) ds B2 H2 := by
    intro B1 H1 t xs ds h3 rr B2 H2 b1 b2 i
    have h4 : SqT X.K H2 t xs := Evl.ex_t b2 (Evl.ex_t b1 h3)
    refine ⟨fun d hd => ?_, fun hi => ⟨xs, h4, by rw [rr.length]; exact hi⟩⟩
    obtain ⟨x, hx, rx⟩ := rr.get hd
    refine ⟨⟨xs, x, h4, hx⟩, fun y H' hy => ?_⟩
    obtain ⟨rfl, hy⟩ := hy
    have h2 := hy xs h4
    rw [hx] at h2
    cases h2
    exact ⟨B2, Nxt.refl b2, fun _ => rfl, rx.mono b1⟩
  cases x <;> first | (cases e2; done) | skip
  · cases e2
    refine h2 ap H0 B0 B σ env H p _ _ p' k e1 fun B1 H1 v n1 hp1 r1 => ?_
    simp only [Rep] at r1
    obtain ⟨t, xs, rfl, h3, rr⟩ := r1
    exact ⟨t, rfl, ⟨xs, Evl.ex_t n1.bh h3⟩, q B1 H1 _ n1 hp1 (fin (H1 := H1) h3 rr)⟩
/-- lo, lo + 1, .. -/
def rngD (lo : Int) (n : Nat) : List D := (List.range n).map fun i => .int (lo + (i : Nat))
theorem wk_range {K : PySem.W.Frag} {ap : Addr} {B H : Hp} {lo : Int} {n : Nat} (e : Ex B H) : Wk K cs ap (Itr lo n) (rngD lo n) B H := by
  intro i
  refine ⟨fun d hd => ?_, fun hi => by unfold rngD at hi; rw [List.length_map, List.length_range] at hi; exact hi⟩
  have hlt : i < n := by
    have h := (List.getElem?_eq_some_iff.mp hd).1
    unfold rngD at h
    rw [List.length_map, List.length_range] at h
    exact h
  unfold rngD at hd
  rw [List.getElem?_map, List.getElem?_range hlt] at hd
  cases hd
  exact ⟨hlt, fun y H' hy => ⟨B, by rw [hy.1]; exact Nxt.refl e, fun _ => by rw [hy.1], by rw [hy.2]; simp only [Rep]⟩⟩
def srcR1 (m : Env' → Mo (List D)) : Env' → Mo (List D) := fun env => bindM (m env) fun ds => match ds with
  | [.int n] => if -1000000 ≤ n ∧ n ≤ 1000000 then retM (rngD 0 n.toNat) else failM
  | _ => failM
def srcR2 (m : Env' → Mo (List D)) : Env' → Mo (List D) := fun env => bindM (m env) fun ds => match ds with
  | [.int i, .int n] => if -1000000 ≤ n ∧ n ≤ 1000000 ∧ -1000000 ≤ i ∧ i ≤ 1000000 then retM (rngD i (n - i).toNat) else failM
  | _ => failM
variable {mm : Env' → Mo (List D)}
theorem i_range1 {tg : Expr} {p : Pos} (hm : X.mg "range" = none) (ha : PAD cs X [a] mm) (hg : Gl X "range" := by rfl) (hs : starEach [a] X.env = [(false, eval a X.env)] := by rfl) : PID cs X tg (.Call (.Name "range" p) [a] [] pos) (srcR1 mm) := by
  obtain ⟨te, h1, h2⟩ := ha.ex
  refine ⟨_, pi_range1 hg hm h1 hs, fun ap H0 B0 B σ env H p R ds p' k hm q => ?_⟩
  obtain ⟨x, p1, e1, e2⟩ := bindM_some hm
  split at e2
  · split at e2
    · rename_i n hn
      cases e2
      refine h2 ap H0 B0 B σ env H p _ _ p' k e1 fun B1 H1 vs n1 hp1 r1 => ?_
      obtain ⟨v, rfl, rv⟩ := reps1 r1
      simp only [Rep] at rv
      exact ⟨n, by rw [rv], by omega, by omega, q B1 H1 _ n1 hp1 fun B2 H2 b1 b2 => wk_range b2⟩
    · cases e2
  · cases e2
theorem i_range2 {tg : Expr} {p : Pos} (hm : X.mg "range" = none) (ha : PAD cs X [a, b] mm) (hg : Gl X "range" := by rfl) (hs : starEach [a, b] X.env = [(false, eval a X.env), (false, eval b X.env)] := by rfl) (hs2 : starEach [b] X.env = [(false, eval b X.env)] := by rfl) : PID cs X tg (.Call (.Name "range" p) [a, b] [] pos) (srcR2 mm) := by
  obtain ⟨te, h1, h2⟩ := ha.ex
  refine ⟨_, pi_range2 hg hm h1 hs hs2, fun ap H0 B0 B σ env H p R ds p' k hm q => ?_⟩
  obtain ⟨x, p1, e1, e2⟩ := bindM_some hm
  split at e2
  · split at e2
    · rename_i i n hn
      cases e2
      refine h2 ap H0 B0 B σ env H p _ _ p' k e1 fun B1 H1 vs n1 hp1 r1 => ?_
      obtain ⟨v, w, rfl, rv, rw'⟩ := reps2 r1
      simp only [Rep] at rv rw'
      exact ⟨i, n, by rw [rv, rw'], ⟨by omega, by omega, by omega, by omega⟩, q B1 H1 _ n1 hp1 fun B2 H2 b1 b2 => wk_range b2⟩
    · cases e2
  · cases e2
/-- the pairs of place and item -/
def enumD : Nat → List D → List D
  | _, [] => []
  | i, d :: ds => .tup [.int (i : Nat), d] :: enumD (i + 1) ds
theorem enumD_length : ∀ (i : Nat) (ds : List D), (enumD i ds).length = ds.length
  | _, [] => rfl
  | i, d :: ds => by unfold enumD; rw [List.length_cons, List.length_cons, enumD_length]
theorem enumD_get : ∀ (j i : Nat) (ds : List D) (d : D), (enumD j ds)[i]? = some d → ∃ c, ds[i]? = some c ∧ d = .tup [.int ((j + i : Nat) : Int), c]
  | _, _, [], _, h => by simp [enumD] at h
  | j, 0, c :: ds, d, h => by simp [enumD] at h; exact ⟨c, rfl, by rw [← h]; rfl⟩
  | j, i + 1, c :: ds, d, h => by
    simp [enumD] at h
    obtain ⟨c', h1, h2⟩ := enumD_get (j + 1) i ds d h
    exact ⟨c', by simpa using h1, by rw [h2]; congr 4; omega⟩
theorem wk_enum {K : PySem.W.Frag} {ap : Addr} {B H : Hp} {t : Addr} {xs : List V} {ds : List D} (h : H t = some (.lst xs)) (r : Reps K cs ap B ds xs) (e : Ex B H) : Wk K cs ap (Ite K t) (enumD 0 ds) B H := by
  intro i
  refine ⟨fun d hd => ?_, fun hi => ⟨xs, SqL.of h, by rw [r.length]; rw [enumD_length] at hi; exact hi⟩⟩
  obtain ⟨c, hc, rfl⟩ := enumD_get 0 i ds d hd
  obtain ⟨x, hx, rx⟩ := r.get hc
  refine ⟨⟨xs, x, SqL.of h, hx⟩, fun y H' hy => ?_⟩
  obtain ⟨T, x', rfl, hT, rfl, hy⟩ := hy
  have h2 := hy xs (SqL.of h)
  rw [hx] at h2
  cases h2
  have n : Nxt ap B H _ _ := Nxt.new (o := .tup [.int (i : Nat), x]) e hT
  refine ⟨_, n, fun ha => ?_, ?_⟩
  · rw [upd_ne (fun z => ha (by rw [z]; exact hT))]
  · simp only [Rep]
    exact ⟨T, _, rfl, SqT.of upd_same, reps_cons (by simp only [Rep]; rw [Nat.zero_add]) (reps_cons (rx.mono n.bb) reps_nil)⟩
def srcE (m : Env' → Mo (List D)) : Env' → Mo (List D) := fun env => bindM (m env) fun ds => match ds with
  | [.lst ds] => retM (enumD 0 ds)
  | _ => failM
theorem i_enum {p tpos : Pos} {elts : List Expr} {kk : Nat} (hm : X.mg "enumerate" = none) (ha : PAD cs X [e] mm) (hg : Gl X "enumerate" := by rfl) (hs : starEach [e] X.env = [(false, eval e X.env)] := by rfl) : PID cs X (.Tuple elts kk tpos) (.Call (.Name "enumerate" p) [e] [] pos) (srcE mm) := by
  obtain ⟨te, h1, h2⟩ := ha.ex
  refine ⟨_, pi_enum hg hm h1 hs, fun ap H0 B0 B σ env H p R ds p' k hm q => ?_⟩
  obtain ⟨x, p1, e1, e2⟩ := bindM_some hm
  split at e2
  · cases e2
    refine h2 ap H0 B0 B σ env H p _ _ p' k e1 fun B1 H1 vs n1 hp1 r1 => ?_
    obtain ⟨v, rfl, rv⟩ := reps1 r1
    simp only [Rep] at rv
    obtain ⟨t, xs, rfl, h3, rr⟩ := rv
    exact ⟨t, xs, rfl, SqL.of (n1.bh _ _ h3), q B1 H1 _ n1 hp1 fun B2 H2 b1 b2 => wk_enum (b2 _ _ (b1 _ _ h3)) (rr.mono b1) b2⟩
  · cases e2
/-- the pairs of items -/
def zipD : List D → List D → List D
  | d :: ds, c :: cs => .tup [d, c] :: zipD ds cs
  | _, _ => []
theorem zipD_length : ∀ (ds es : List D), (zipD ds es).length = min ds.length es.length
  | [], es => by simp [zipD]
  | d :: ds, [] => by simp [zipD]
  | d :: ds, c :: es => by simp only [zipD, List.length_cons, zipD_length ds es]; omega
theorem zipD_get : ∀ (i : Nat) (ds es : List D) (d : D), (zipD ds es)[i]? = some d → ∃ c c', ds[i]? = some c ∧ es[i]? = some c' ∧ d = .tup [c, c']
  | _, [], _, _, h => by simp [zipD] at h
  | _, _ :: _, [], _, h => by simp [zipD] at h
  | 0, c :: ds, c' :: es, d, h => by simp [zipD] at h; exact ⟨c, c', rfl, rfl, h.symm⟩
  | i + 1, c :: ds, c' :: es, d, h => by
    simp [zipD] at h
    obtain ⟨a, b, h1, h2, h3⟩ := zipD_get i ds es d h
    exact ⟨a, b, by simpa using h1, by simpa using h2, h3⟩
def srcZ (m : Env' → Mo (List D)) : Env' → Mo (List D) := fun env => bindM (m env) fun ds => match ds with
  | [.lst ds, .lst es] => retM (zipD ds es)
  | _ => failM
theorem i_zip {e2 : Expr} {p tpos : Pos} {elts : List Expr} {kk : Nat} (hm : X.mg "zip" = none) (ha : PAD cs X [e, e2] mm) (hg : Gl X "zip" := by rfl) (hs : starEach [e, e2] X.env = (false, eval e X.env) :: starEach [e2] X.env := by rfl) (hpl : (backTo pos (starEach [e2] X.env)).any (·.1) = false := by rfl) :
    PID cs X (.Tuple elts kk tpos) (.Call (.Name "zip" p) [e, e2] [] pos) (srcZ mm) := by
  obtain ⟨te, h1, h2⟩ := ha.ex
  refine ⟨_, pi_zip hg hm h1 hs hpl, fun ap H0 B0 B σ env H p R ds p' k hm q => ?_⟩
  obtain ⟨x, p1, e1, e2⟩ := bindM_some hm
  split at e2
  · cases e2
    refine h2 ap H0 B0 B σ env H p _ _ p' k e1 fun B1 H1 vs n1 hp1 r1 => ?_
    obtain ⟨v, w, rfl, rv, rw'⟩ := reps2 r1
    simp only [Rep] at rv rw'
    obtain ⟨t, xs, rfl, h3, rr⟩ := rv
    obtain ⟨t', ys, rfl, h3', rr'⟩ := rw'
    refine ⟨t, t', xs, ys, rfl, SqL.of (n1.bh _ _ h3), SqL.of (n1.bh _ _ h3'), q B1 H1 _ n1 hp1 fun B2 H2 b1 b2 i => ?_⟩
    have g1 := b2 _ _ (b1 _ _ h3)
    have g2 := b2 _ _ (b1 _ _ h3')
    have r2 := rr.mono b1
    have r2' := rr'.mono b1
    refine ⟨fun d hd => ?_, fun hi => ⟨xs, ys, SqL.of g1, SqL.of g2, by rw [zipD_length] at hi; rw [rr.length, rr'.length]; omega⟩⟩
    obtain ⟨c, c', hc, hc', rfl⟩ := zipD_get i _ _ d hd
    obtain ⟨x, hx, rx⟩ := r2.get hc
    obtain ⟨y, hy, ry⟩ := r2'.get hc'
    refine ⟨⟨xs, ys, x, y, SqL.of g1, SqL.of g2, hx, hy⟩, fun z H' hz => ?_⟩
    obtain ⟨T, x', y', rfl, hT, rfl, hz1, hz2⟩ := hz
    have q1 := hz1 xs (SqL.of g1)
    have q2 := hz2 ys (SqL.of g2)
    rw [hx] at q1
    rw [hy] at q2
    cases q1
    cases q2
    have n : Nxt ap B2 H2 _ _ := Nxt.new (o := .tup [x, y]) b2 hT
    refine ⟨_, n, fun ha => by rw [upd_ne (fun z => ha (by rw [z]; exact hT))], ?_⟩
    simp only [Rep]
    exact ⟨T, _, rfl, SqT.of upd_same, reps_cons (rx.mono n.bb) (reps_cons (ry.mono n.bb) reps_nil)⟩
  · cases e2
end
end DL
end

section
set_option Elab.async false
set_option linter.all false
set_option maxRecDepth 100000
set_option maxHeartbeats 4000000
/-! DL: comprehensions, own lists changed, new lists handed back. -/
namespace DL
open PySem PySem.Spec PyProof.Rows L2
open Evl (Ex)

/-- the readings that the denotations give -/
def tED (K : PySem.W.Frag) (cs : CT) (m : Env' → Mo D) : TE := fun σ H Q => ∃ ap H0 B0 B env p d p', Ok K cs ap H0 B0 B σ env H p ∧ m env p = some (d, p') ∧ KE K cs ap B H p' d Q
def tTD (K : PySem.W.Frag) (cs : CT) (m : Env' → Mo Bool) : TT := fun σ H Q => ∃ ap H0 B0 B env p d p', Ok K cs ap H0 B0 B σ env H p ∧ m env p = some (d, p') ∧ KT ap B H p' d Q
def tGD (K : PySem.W.Frag) (cs : CT) (sl : List Nat) (m : MG) : TG := fun v σ H Q => ∃ ap H0 B0 B env p d env', Ok K cs ap H0 B0 B σ env H p ∧ Rep K cs ap B d v ∧ m d env = some env' ∧ ∀ σ', Ok K cs ap H0 B0 B σ' env' H p → Agr sl σ σ' → Q σ' H
section
variable {cs : CT} {X : Cx} {e a b : Expr} {es : List Expr} {m ma mb : Env' → Mo D} {pos : Pos}
theorem PED.rd (h : PED cs X e m) : PE X e (tED X.K cs m) := by
  obtain ⟨te, h1, h2⟩ := h.ex
  exact ⟨fun pins s σ H Q I ⟨ap, H0, B0, B, env, p, d, p', k, hm, q⟩ => h1.run pins s σ H Q I (h2 ap H0 B0 B σ env H p Q d p' k hm q)⟩
theorem PTD.rd {m : Env' → Mo Bool} (h : PTD cs X e m) : PT X e (tTD X.K cs m) := by
  obtain ⟨te, h1, h2⟩ := h.ex
  exact ⟨fun pins s σ H Q I ⟨ap, H0, B0, B, env, p, d, p', k, hm, q⟩ => h1.run pins s σ H Q I (h2 ap H0 B0 B σ env H p Q d p' k hm q)⟩
theorem PGD.rd {sl : List Nat} {m : MG} (h : PGD cs X e sl m) : PG X e (tGD X.K cs sl m) := by
  obtain ⟨g, h1, h2⟩ := h.ex
  exact ⟨fun pins s σ H v u Q I r ⟨ap, H0, B0, B, env, p, d, env', k, rv, hm, q⟩ => h1.run pins s σ H v u Q I r (h2 ap H0 B0 B σ env H p Q d v env' k rv hm q)⟩

/-! ### slots wiped -/
def wipeE (env : Env') : List Nat → Env'
  | [] => env
  | v :: vs => (wipeE env vs).set v .un
theorem Ok.wipe {K : PySem.W.Frag} {ap : Addr} {H0 B0 B H : Hp} {σ : L2.St} {env : Env'} {p : Pt} (k : Ok K cs ap H0 B0 B σ env H p) : ∀ vs : List Nat, Ok K cs ap H0 B0 B (L2.wipe σ vs) (wipeE env vs) H p
  | [] => k
  | v :: vs => by
    have k1 := Ok.wipe k vs
    unfold L2.wipe wipeE
    by_cases hi : v < (wipeE env vs).length
    · exact k1.setp hi trivial rfl
    · have h1 : (wipeE env vs).length ≤ v := by omega
      have h2 : (L2.wipe σ vs).length ≤ v := by rw [k1.len]; exact h1
      rw [List.set_eq_of_length_le h1, List.set_eq_of_length_le h2]; exact k1
theorem wipe_in {σ : L2.St} {i : Nat} : ∀ {vs : List Nat}, i ∈ vs → (L2.wipe σ vs)[i]? = if i < σ.length then some none else none
  | v :: vs, h => by
    unfold L2.wipe
    by_cases e : v = i
    · subst e
      by_cases hl : v < σ.length
      · rw [if_pos hl, List.getElem?_set_self (by rw [wipe_length]; exact hl)]
      · rw [if_neg hl, List.getElem?_eq_none (by rw [List.length_set, wipe_length]; omega)]
    · rw [List.getElem?_set_ne e]
      exact wipe_in ((List.mem_cons.mp h).resolve_left fun z => e z.symm)
theorem wipe_agr {σ σ' : L2.St} {sl vs : List Nat} (g : Agr sl (L2.wipe σ vs) σ') (h : ∀ i ∈ sl, i ∈ vs) : L2.wipe σ' vs = L2.wipe σ vs := by
  apply List.ext_getElem?
  intro i
  have hl : σ'.length = σ.length := by rw [g.1, wipe_length]
  by_cases hi : i ∈ vs
  · rw [wipe_in hi, wipe_in hi, hl]
  · rw [wipe_out hi, g.2 i fun z => hi (h i z)]

/-! ### comprehensions -/
def compM (g : MG) (t : Env' → Mo Bool) (e : Env' → Mo D) (env : Env') : List D → Mo (List D)
  | [] => retM []
  | d :: ds => match g d env with
    | none => failM
    | some env1 => bindM (t env1) fun b => if b = true then bindM (e env1) fun y => bindM (compM g t e env ds) fun ys => retM (y :: ys) else compM g t e env ds
def mYes : Env' → Mo Bool := fun _ => retM true
def mLc (src : Env' → Mo (List D)) (vs : List Nat) (g : MG) (t : Env' → Mo Bool) (e : Env' → Mo D) : Env' → Mo (List D) := fun env => bindM (src env) fun ds => if ds.length ≤ 100000 then compM g t e (wipeE env vs) ds else failM
theorem compM_len {g : MG} {t : Env' → Mo Bool} {e : Env' → Mo D} {env : Env'} : ∀ {ds : List D} {p p' : Pt} {ys : List D}, compM g t e env ds p = some (ys, p') → ys.length ≤ ds.length
  | [], _, _, _, h => by cases h; exact Nat.le_refl _
  | d :: ds, p, p', ys, h => by
    unfold compM at h
    cases hg : g d env with
    | none => rw [hg] at h; cases h
    | some env1 =>
      rw [hg] at h
      obtain ⟨b, p1, e1, e2⟩ := bindM_some (m := t env1) h
      cases b with
      | true =>
        rw [if_pos rfl] at e2
        obtain ⟨y, p2, e3, e4⟩ := bindM_some e2
        obtain ⟨zs, p3, e5, e6⟩ := bindM_some e4
        cases e6
        have := compM_len e5
        simp only [List.length_cons]; omega
      | false =>
        rw [if_neg (by decide)] at e2
        have := compM_len e2
        simp only [List.length_cons]; omega
structure PTsD (cs : CT) (X : Cx) (ifs : List Expr) (m : Env' → Mo Bool) : Prop where
  rd : PTs X ifs (tTD X.K cs m)
theorem ts_nil : PTsD cs X [] mYes := ⟨⟨fun pins s σ H Q I ⟨ap, H0, B0, B, env, p, d, p', k, hm, q⟩ => by
  cases hm
  exact pts_nil.run pins s σ H Q I (q B H (Nxt.refl k.bh) k.pot)⟩⟩
theorem ts_one {m : Env' → Mo Bool} (h : PTD cs X e m) : PTsD cs X [e] m := ⟨pts_one h.rd⟩
theorem lc_ev {K : PySem.W.Frag} {wi : TI} {msrc : Env' → Mo (List D)} {mg : MG} {mt : Env' → Mo Bool} {me : Env' → Mo D} {sl vs : List Nat} (hi : EvJ K cs wi msrc) (hsl : ∀ i ∈ sl, i ∈ vs) :
    EvO K cs (tLc wi (tGD K cs sl mg) (tTD K cs mt) (tED K cs me) vs) (mLc msrc vs mg mt me) := by
  intro ap H0 B0 B σ env H p Q out p' k hm q
  obtain ⟨ds, p1, e1, e2⟩ := bindM_some hm
  split at e2
  case isFalse => cases e2
  rename_i hsz
  refine hi ap H0 B0 B σ env H p _ ds p1 k e1 fun B1 H1 J n1 hp1 wk Da hD => ?_
  have k1 := (k.nxt n1 hp1).wipe vs
  have bD : B1 Da = none := Evl.fresh_back n1.bh hD
  have Dap : Da ≠ ap := fun z => by rw [z] at hD; unfold PotAt at hp1; rw [hD] at hp1; cases hp1
  have hD0 : H Da = none := by
    cases z : H Da with
    | none => rfl
    | some o => exact absurd hD (n1.nn Da (by rw [z]; exact fun y => nomatch y))
  refine ⟨fun i m H' => m = ds.length - i ∧ ∃ B2 p2 acc accV ys, Nxt ap B1 H1 B2 H' ∧ PotAt ap H' p2 ∧ H' Da = some (.lst accV) ∧ B2 Da = none ∧ Reps K cs ap B2 acc accV ∧ accV.length ≤ i ∧
      compM mg mt me (wipeE env vs) (ds.drop i) p2 = some (ys, p') ∧ out = acc ++ ys,
    ⟨_, rfl, B1, p1, [], [], out, Nxt.newU n1.bh hD, hp1.new hD, upd_same, bD, reps_nil, Nat.le_refl _, e2, rfl⟩, ?_⟩
  rintro i mm H' ⟨rfl, B2, p2, acc, accV, ys, n2, hp2, hDl, hBD, ra, hal, hc, rfl⟩
  have wki := wk B2 H' n2 i
  by_cases hlt : i < ds.length
  · right
    obtain ⟨d, hd⟩ : ∃ d, ds[i]? = some d := ⟨ds[i], List.getElem?_eq_getElem hlt⟩
    obtain ⟨hgo, hy⟩ := wki.1 d hd
    refine ⟨hgo, ?_⟩
    have hdr : ds.drop i = d :: ds.drop (i + 1) := by
      rw [List.drop_eq_getElem_cons hlt]
      rw [List.getElem?_eq_getElem hlt] at hd
      rw [Option.some.inj hd]
    rw [hdr] at hc
    unfold compM at hc
    cases hg : mg d (wipeE env vs) with
    | none => rw [hg] at hc; cases hc
    | some env1 =>
      rw [hg] at hc
      obtain ⟨tb, p3, e3, e4⟩ := bindM_some (m := mt env1) hc
      refine ⟨fun H' => ∃ B2 p2 acc' accV ys', Nxt ap B1 H1 B2 H' ∧ PotAt ap H' p2 ∧ H' Da = some (.lst accV) ∧ B2 Da = none ∧ Reps K cs ap B2 acc' accV ∧ accV.length ≤ i + 1 ∧
          compM mg mt me (wipeE env vs) (ds.drop (i + 1)) p2 = some (ys', p') ∧ acc ++ ys = acc' ++ ys',
        fun H' ⟨B2, p2, acc', accV, ys', h1, h2, h3, h4, h5, h6, h7, h8⟩ => ⟨ds.length - (i + 1), by omega, rfl, B2, p2, acc', accV, ys', h1, h2, h3, h4, h5, h6, h7, h8⟩, fun x H3 hyl => ?_⟩
      obtain ⟨B3, n3, hap, r3⟩ := hy x H3 hyl
      have hp3 : PotAt ap H3 p2 := by
        unfold PotAt
        rw [hap (by rw [show H' ap = _ from hp2]; exact (fun z => nomatch z))]
        exact hp2
      have n13 := n2.trans n3
      have k3 := (k1.nxt n2 hp2).nxt n3 hp3
      have hD3 : H3 Da = some (.lst accV) := n3.fr _ _ hDl Dap
      have hB3 : B3 Da = none := n3.nw _ (by rw [hDl]; exact (fun z => nomatch z)) hBD
      refine ⟨ap, H0, B0, B3, wipeE env vs, p2, d, env1, k3, r3, hg, fun σ2 k4 ag => ⟨wipe_agr ag hsl, ap, H0, B0, B3, env1, p2, tb, p3, k4, e3, fun B5 H5 n5 hp5 => ?_⟩⟩
      have k5 := k4.nxt n5 hp5
      have n15 := n13.trans n5
      have hD5 : H5 Da = some (.lst accV) := n5.fr _ _ hD3 Dap
      have hB5 : B5 Da = none := n5.nw _ (by rw [hD3]; exact (fun z => nomatch z)) hB3
      cases tb with
      | false =>
        dsimp only
        rw [if_neg (by decide)] at e4 ⊢
        exact ⟨B5, p3, acc, accV, ys, n15, hp5, hD5, hB5, ra.mono (n3.bb.trans n5.bb), by omega, e4, rfl⟩
      | true =>
        dsimp only
        rw [if_pos rfl] at e4 ⊢
        obtain ⟨y, p6, e5, e6⟩ := bindM_some e4
        obtain ⟨zs, p7, e7, e8⟩ := bindM_some e6
        cases e8
        refine ⟨ap, H0, B0, B5, env1, p3, y, p6, k5, e5, fun B6 H6 v n6 hp6 r6 => ?_⟩
        have n16 := n15.trans n6
        have hD6 : H6 Da = some (.lst accV) := n6.fr _ _ hD5 Dap
        have hB6 : B6 Da = none := n6.nw _ (by rw [hD5]; exact (fun z => nomatch z)) hB5
        refine ⟨accV, hD6, Nat.lt_of_le_of_lt hal (Nat.lt_of_lt_of_le (Nat.lt_of_lt_of_le hlt hsz) (by rw [sizeLine_eq]; decide)), B6, p6, acc ++ [y], accV ++ [v], zs, ?_, ?_, upd_same, hB6, (ra.mono ((n3.bb.trans n5.bb).trans n6.bb)).append (reps_cons r6 reps_nil), by simp; omega, e7, by simp⟩
        · refine ⟨n16.bb, fun a o h => ?_, n16.nw, fun a o h ha => ?_, fun a h => ?_⟩
          · have e9 : a ≠ Da := fun z => by rw [z, hB6] at h; cases h
            rw [upd_ne e9]; exact n16.bh _ _ h
          · have e9 : a ≠ Da := fun z => by rw [z, hD] at h; cases h
            rw [upd_ne e9]; exact n16.fr a o h ha
          · have e9 : a ≠ Da := fun z => h (by rw [z]; exact hD)
            rw [upd_ne e9]; exact n16.nn a h
        · unfold PotAt; rw [upd_ne (fun z => Dap z.symm)]; exact hp6
  · left
    refine ⟨wki.2 (by omega), ?_⟩
    rw [List.drop_eq_nil_of_le (by omega)] at hc
    cases hc
    rw [List.append_nil] at q
    exact q B2 H' Da accV (n1.trans n2) hp2 hD0 hBD hDl ra
theorem o_lc {elt tg iter : Expr} {ifs : List Expr} {scope : Scope} {msrc : Env' → Mo (List D)} {mg : MG} {mt : Env' → Mo Bool} {me : Env' → Mo D} {sl : List Nat} (own : List (Str × Nat)) (hc : X.calm = true) (hN : X.N.Nodup) (ok : BlkOk X.N X.env.scope scope own) (hi : PJD cs X tg iter msrc)
    (hg : ∀ (s : Shared) (H : Hp) (C : Addr) (cl : List (Str × Addr)) (fp : List Addr), PGD cs (X.blk s H scope (compEnvC scope cl C X.env) fp) tg sl mg) (ht : ∀ (s : Shared) (H : Hp) (C : Addr) (cl : List (Str × Addr)) (fp : List Addr), PTsD cs (X.blk s H scope (compEnvC scope cl C X.env) fp) ifs mt)
    (he : ∀ (s : Shared) (H : Hp) (C : Addr) (cl : List (Str × Addr)) (fp : List Addr), PED cs (X.blk s H scope (compEnvC scope cl C X.env) fp) elt me) (hsl : ∀ i ∈ sl, i ∈ own.map (·.2) := by decide) (hs : ∀ x, foldedSetIterable iter X.env x = pure x := by intro _; rfl) :
    POD cs X (.ListComp elt [⟨tg, iter, ifs, 0⟩] scope pos) (mLc msrc (own.map (·.2)) mg mt me) := by
  obtain ⟨wi, i1, i2⟩ := hi.ex
  exact ⟨_, pe_lc hc hN i1 ok (fun s H C cl fp => (hg s H C cl fp).rd) (fun s H C cl fp => (ht s H C cl fp).rd) (fun s H C cl fp => (he s H C cl fp).rd) hs, lc_ev i2 hsl⟩
/-- name = [..] on one line -/
theorem s_lc (i : Nat) {y : Str} {py spos : Pos} {elt tg iter : Expr} {ifs : List Expr} {scope : Scope} {msrc : Env' → Mo (List D)} {mg : MG} {mt : Env' → Mo Bool} {me : Env' → Mo D} {sl : List Nat} (own : List (Str × Nat)) (hc : X.calm = true) (hN : X.N.Nodup) (hsw : swapsWith (.ListComp elt [⟨tg, iter, ifs, 0⟩] scope pos) (some (.Name y py)) spos.line X.env = pure true)
    (ok : BlkOk X.N X.env.scope scope own) (hi : PJD cs X tg iter msrc)
    (hg : ∀ (s : Shared) (H : Hp) (C : Addr) (cl : List (Str × Addr)) (fp : List Addr), PGD cs (X.blk s H scope (compEnvC scope cl C X.env) fp) tg sl mg) (ht : ∀ (s : Shared) (H : Hp) (C : Addr) (cl : List (Str × Addr)) (fp : List Addr), PTsD cs (X.blk s H scope (compEnvC scope cl C X.env) fp) ifs mt)
    (he : ∀ (s : Shared) (H : Hp) (C : Addr) (cl : List (Str × Addr)) (fp : List Addr), PED cs (X.blk s H scope (compEnvC scope cl C X.env) fp) elt me) (hy : X.N[i]? = some y := by rfl) (hyl : X.env.scope.names.lookup y = some .local := by rfl)
    (hsl : ∀ i ∈ sl, i ∈ own.map (·.2) := by decide) (hs : ∀ x, foldedSetIterable iter X.env x = pure x := by intro _; rfl) :
    PSD cs X (.Assign [.Name y py] (.ListComp elt [⟨tg, iter, ifs, 0⟩] scope pos) spos) (mSetO i (mLc msrc (own.map (·.2)) mg mt me)) := by
  obtain ⟨wi, i1, i2⟩ := hi.ex
  exact ⟨_, ps_setLc hc hN hy hyl hsw i1 ok (fun s H C cl fp => (hg s H C cl fp).rd) (fun s H C cl fp => (ht s H C cl fp).rd) (fun s H C cl fp => (he s H C cl fp).rd) hs, setO_ev (lc_ev i2 hsl)⟩

/-! ### own lists changed -/
def mApp (i : Nat) (m : Env' → Mo D) : MS := fun env => bindM (m env) fun d => match env[i]? with
  | some (.own ds) => if ds.length ≤ 100000 then retM (.nx, env.set i (.own (ds ++ [d]))) else failM
  | _ => failM
/-- xs.append(e), xs the def's own -/
theorem s_app (i : Nat) {x : Str} {p1 apos cpos : Pos} (h : PED cs X e m) (hN : X.N[i]? = some x := by rfl) (hv : Vis X.env.scope x := by first | exact Or.inl rfl | exact Or.inr (Or.inl rfl) | exact Or.inr (Or.inr rfl)) (hd : (x == ("__debug__" : Str)) = false := by decide)
    (hcd : (x == ("__classdict__" : Str)) = false := by decide) (hs : starEach [e] X.env = (false, eval e X.env) :: starEach [] X.env := by rfl)
    (hsw : swapsWith (.Call (.Attribute (.Name x p1) "append" apos) [e] [] cpos) none pos.line X.env = pure false := by rfl) (hbase : attributeBase (.Name x p1) "append" X.env (eval (.Name x p1) X.env) = eval (.Name x p1) X.env := by rfl) (hline : (apos.endLine == cpos.line) = true := by rfl)
    (hfew : ((((backTo cpos (starEach [e] X.env)).all fun x => !x.fst) && (backToKw cpos (keywordEach [] X.env)).all fun x => x.fst.isSome) && decide (([e].length + ([] : List Keyword).length + if ([] : List Keyword).isEmpty = true then 0 else 1) < 30)) = true := by rfl) :
    PSD cs X (.Expr (.Call (.Attribute (.Name x p1) "append" apos) [e] [] cpos) pos) (mApp i m) := by
  obtain ⟨te, h1, h2⟩ := h.ex
  refine ⟨_, ps_expr (pe_bm PySem.F.plainAttrs_list PySem.F.slot_list_append PySem.F.type_list_append mt_append (pe_var hN hv hd hcd) (L2.pa_cons h1 L2.pa_nil hs) (hbase := hbase) (hs := hs) (hfew := hfew) (hline := hline)) hsw, fun ap H0 B0 B σ env H p E o env' p' k hm q => ?_⟩
  obtain ⟨d, p1, e1, e2⟩ := bindM_some hm
  rcases g : env[i]? with _ | _ | _ | ds | _
  · rw [g] at e2; cases e2
  · rw [g] at e2; cases e2
  · rw [g] at e2; cases e2
  · rw [g] at e2
    dsimp only at e2
    split at e2
    case isFalse => cases e2
    rename_i hz
    cases e2
    obtain ⟨a, xs, g1, g2, g3, g4⟩ := k.sl i _ g
    have nap : a ≠ ap := fun z => k.hap (z ▸ k.ownNew i ds a g g1)
    refine ⟨.ref a, g1, .inl ⟨rfl, xs, SqL.of g3⟩, h2 ap H0 B0 B σ env H p _ d p' k e1 fun B1 H1 v n1 hp1 r1 => ?_⟩
    have k1 := k.nxt n1 hp1
    refine ⟨a, xs, v, rfl, rfl, n1.fr _ _ g3 nap, Nat.lt_of_le_of_lt (by rw [g4.length]; exact hz) (by rw [sizeLine_eq]; decide), ?_⟩
    exact q B1 σ _ n1.bb (k1.mut g g1 ((g4.mono n1.bb).append (reps_cons r1 reps_nil)))
  · rw [g] at e2; cases e2
def mPop (i j : Nat) (m : Env' → Mo D) : MS := fun env => bindM (m env) fun d => match env[i]?, d with
  | some (.own ds), .int n => match seqIndex? n ds.length with
    | some kk => match ds[kk]? with
      | some y => if -(2 ^ 62) ≤ n ∧ n ≤ 2 ^ 62 then retM (.nx, (env.set i (.own (ds.eraseIdx kk))).set j (.val y)) else failM
      | none => failM
    | none => failM
  | _, _ => failM
/-- xs[i] = e, xs the def's own -/
def mSetIx (i : Nat) (me mi : Env' → Mo D) : MS := fun env => bindM (me env) fun d => bindM (mi env) fun n => match env[i]?, n with
  | some (.own ds), .int n => match ixN ds.length n with
    | some j => retM (.nx, env.set i (.own (ds.set j d)))
    | none => failM
  | _, _ => failM
theorem s_setIx (i : Nat) {x : Str} {p1 tpos : Pos} (h : PED cs X e m) (hi : PED cs X a ma) (hN : X.N[i]? = some x := by rfl) (hv : Vis X.env.scope x := by first | exact Or.inl rfl | exact Or.inr (Or.inl rfl) | exact Or.inr (Or.inr rfl)) (hd : (x == ("__debug__" : Str)) = false := by decide)
    (hcd : (x == ("__classdict__" : Str)) = false := by decide)
    (ha : ∀ v, assign (.Subscript (.Name x p1) a tpos) X.env v = (do
      let ov ← holding [v] (eval (.Name x p1) X.env)
      let iv ← holding [v, ov] (eval a X.env)
      standAt tpos
      holding [v, ov, iv] (setItem ov iv v)
      release [v, ov, iv] []) := by intro _; rfl)
    (hs : swapsWithSole [.Subscript (.Name x p1) a tpos] e pos.line X.env = pure false := by rfl) (hw : swappedStores [.Subscript (.Name x p1) a tpos] e X.env = pure none := by rfl)
    (h1 : (assignEach [.Subscript (.Name x p1) a tpos] X.env).map (·.2) = [assign (.Subscript (.Name x p1) a tpos) X.env] := by rfl) : PSD cs X (.Assign [.Subscript (.Name x p1) a tpos] e pos) (mSetIx i m ma) := by
  obtain ⟨te, a1, a2⟩ := h.ex
  obtain ⟨ti, b1, b2⟩ := hi.ex
  refine ⟨_, ps_asg a1 (pg_sub (pe_var hN hv hd hcd) b1 set_list ha) hs hw h1, fun ap H0 B0 B σ env H p E o env' p' k hm q => ?_⟩
  obtain ⟨d, p1, e1, e2⟩ := bindM_some hm
  obtain ⟨n, p2, e3, e4⟩ := bindM_some e2
  rcases g : env[i]? with _ | _ | _ | ds | _
  · rw [g] at e4; cases e4
  · rw [g] at e4; cases e4
  · rw [g] at e4; cases e4
  · rw [g] at e4
    cases n <;> first | (cases e4; done) | skip
    rename_i nn
    dsimp only at e4
    cases z : ixN ds.length nn with
    | none => rw [z] at e4; cases e4
    | some j =>
      rw [z] at e4
      cases e4
      obtain ⟨t, xs, g1, g2, g3, g4⟩ := k.sl i _ g
      have nap : t ≠ ap := fun z => k.hap (z ▸ k.ownNew i ds t g g1)
      refine a2 ap H0 B0 B σ env H p _ d p1 k e1 fun B1 H1 v n1 hp1 r1 => ?_
      have k1 := k.nxt n1 hp1
      refine ⟨.ref t, g1, b2 ap H0 B0 B1 σ env H1 p1 _ _ p' k1 e3 fun B2 H2 u n2 hp2 r2 => ?_⟩
      have k2 := k1.nxt n2 hp2
      simp only [Rep] at r2
      have hh : H2 t = some (.lst xs) := n2.fr _ _ (n1.fr _ _ g3 nap) nap
      refine ⟨t, xs, nn, j, rfl, r2, hh, by rw [g4.length]; exact z, ?_⟩
      exact q B2 σ _ (n1.bb.trans n2.bb) (k2.mut g g1 (Reps.set (r1.mono n2.bb) j (g4.mono (n1.bb.trans n2.bb))))
  · rw [g] at e4; cases e4
end
end DL
end

section
set_option Elab.async false
set_option linter.all false
set_option maxRecDepth 100000
set_option maxHeartbeats 4000000
/-! DL: instances, their attributes, methods, operators; isinstance; making. -/
namespace DL
open PySem PySem.Spec PyProof.Rows L2
open Evl (Ex)

theorem lookup_at {α : Type} : ∀ {fs : List (Str × α)} {i : Nat} {f : Str} {v : α}, (fs.map (·.1)).Nodup → (fs.map (·.1))[i]? = some f → (fs.map (·.2))[i]? = some v → fs.lookup f = some v
  | [], i, f, v, _, h, _ => by simp at h
  | (g, x) :: fs, 0, f, v, _, h, h' => by
    simp at h h'
    subst h; subst h'
    simp [List.lookup]
  | (g, x) :: fs, i + 1, f, v, nd, h, h' => by
    rw [List.map_cons, List.nodup_cons] at nd
    rw [List.map_cons, List.getElem?_cons_succ] at h h'
    have ne : f ≠ g := fun z => nd.1 (by rw [← z]; exact List.mem_of_getElem? h)
    rw [List.lookup_cons]
    have : (f == g) = false := beq_eq_false_iff_ne.mpr ne
    rw [this]
    exact lookup_at nd.2 h h'
theorem lookup_no {α : Type} : ∀ {fs : List (Str × α)} {f : Str}, f ∉ fs.map (·.1) → fs.lookup f = none
  | [], _, _ => rfl
  | (g, x) :: fs, f, h => by
    rw [List.map_cons, List.mem_cons, not_or] at h
    rw [List.lookup_cons, beq_eq_false_iff_ne.mpr h.1]
    exact lookup_no h.2
/-- the class c stands at C, its instances' attributes are fn -/
structure ClsAt (K : PySem.W.Frag) (cs : CT) (c : Nat) (C : Addr) (fn : List Str) : Prop where
  at_ : cs c = some (C, fn)
  nd : fn.Nodup
  cl : Cls K C
def mFld (c i : Nat) (a : Env' → Mo D) : Env' → Mo D := fun env => bindM (a env) fun x => match x with
  | .ins c' ds => if c' = c then match ds[i]? with
      | some d => retM d
      | none => failM
    else failM
  | _ => failM
section
variable {cs : CT} {X : Cx} {e a b : Expr} {es : List Expr} {m ma mb : Env' → Mo D} {pos : Pos} {C f : Addr} {fn : List Str} {c k : Nat} {fd : FuncData} {ps : List Str} {g : Bool} {fm : List D → Mo D}
theorem p_fld (i : Nat) {x : Str} (T : ClsAt X.K cs c C fn) (hn : NoAttr X.K C x) (ha : PED cs X e ma) (hi : fn[i]? = some x := by rfl) (hb : attributeBase e x X.env (eval e X.env) = eval e X.env := by rfl) : PED cs X (.Attribute e x pos) (mFld c i ma) := by
  obtain ⟨ta, a1, a2⟩ := ha.ex
  refine ⟨_, pe_fld a1 hb, fun ap H0 B0 B σ env H p Q d p' k hm q => ?_⟩
  obtain ⟨y, p1, e1, e2⟩ := bindM_some hm
  cases y <;> first | (cases e2; done) | skip
  rename_i c' ds
  dsimp only at e2
  split at e2
  case isFalse => cases e2
  rename_i hc
  subst hc
  cases z : ds[i]? with
  | none => rw [z] at e2; cases e2
  | some d' =>
    rw [z] at e2
    cases e2
    refine a2 ap H0 B0 B σ env H p _ _ p' k e1 fun B1 H1 v n1 hp1 r1 => ?_
    simp only [Rep] at r1
    obtain ⟨a', C', fn', dx, fs, rfl, h1, h2, h3, h4⟩ := r1
    rw [T.at_] at h1
    cases h1
    obtain ⟨v, g1, g2⟩ := h4.get z
    exact ⟨a', C, dx, fs, v, rfl, n1.bh _ _ h2, T.cl, hn, lookup_at (by rw [h3]; exact T.nd) (by rw [h3]; exact hi) g1, q B1 H1 v n1 hp1 g2⟩
/-- what an instance's datum says -/
theorem rep_ins {K : PySem.W.Frag} {ap : Addr} {B : Hp} {ds : List D} {v : V} (T : ClsAt K cs c C fn) (r : Rep K cs ap B (.ins c ds) v) : ∃ a' dx fs, v = .ref a' ∧ B a' = some (.ins C dx fs) ∧ fs.map (·.1) = fn ∧ Reps K cs ap B ds (fs.map (·.2)) := by
  simp only [Rep] at r
  obtain ⟨a', C', fn', dx, fs, rfl, h1, h2, h3, h4⟩ := r
  rw [T.at_] at h1
  cases h1
  exact ⟨a', dx, fs, rfl, h2, h3, h4⟩
/-- o.m(e, ..) -/
def onC (c : Nat) (f : List D → Mo D) : List D → Mo D := fun ds => match ds with
  | .ins c' gs :: r => if c' = c then f (.ins c' gs :: r) else failM
  | _ => failM
def mMeth (c : Nat) (f : List D → Mo D) (o : Env' → Mo D) (m : Env' → Mo (List D)) : Env' → Mo D := fun env => bindM (o env) fun x => bindM (m env) fun ds => onC c f (x :: ds)
theorem meth_ev {K : PySem.W.Frag} {n : Nat} {ta : TE} {t : TA} {x : Str} {mm : Env' → Mo (List D)} (T : ClsAt K cs c C fn) (hx : x ∉ fn) (ha : EvE K cs ta ma) (ht : EvA K cs t mm) (hn : ∀ ds p d p', fm ds p = some (d, p') → ds.length = n) : EvE K cs (tMeth C x (spD K cs n fm) [] E0 ta t) (mMeth c fm ma mm) := by
  intro ap H0 B0 B σ env H p Q d p' k hm q
  obtain ⟨y, p1, e1, e2⟩ := bindM_some hm
  obtain ⟨ds, p2, e3, e4⟩ := bindM_some e2
  unfold onC at e4
  cases y <;> first | (cases e4; done) | skip
  rename_i c' gs
  dsimp only at e4
  split at e4
  case isFalse => cases e4
  rename_i hc
  subst hc
  refine ha ap H0 B0 B σ env H p _ _ p1 k e1 fun B1 H1 v n1 hp1 r1 => ?_
  have k1 := k.nxt n1 hp1
  obtain ⟨a', dx, fs, rfl, h2, h3, h4⟩ := rep_ins T r1
  refine ⟨a', dx, fs, rfl, n1.bh _ _ h2, lookup_no (by rw [h3]; exact hx), ht ap H0 B0 B1 σ env H1 p1 _ ds p2 k1 e3 fun B2 H2 vs n2 hp2 r2 => ?_⟩
  have k2 := k1.nxt n2 hp2
  have rr : Reps K cs ap B2 (.ins c' gs :: ds) (.ref a' :: (vs ++ [])) := by
    rw [List.append_nil]
    exact reps_cons (r1.mono n2.bb) r2
  exact ⟨ap, B2, _, p2, d, p', by rw [rr.length, hn _ p2 d p' e4], k2.bh, hp2, k2.bap, rr, e4, fun B' H' w n3 hp3 r3 => q B' H' w ((n1.trans n2).trans n3) hp3 r3⟩
theorem p_meth {n : Nat} {x : Str} {apos : Pos} {mm : Env' → Mo (List D)} {pl : Sem Bool} (T : ClsAt X.K cs c C fn) (hm : Meth X.K C x f) (F : FnD false X.prog X.w X.K X.mg X.base k f fd ps (spD X.K cs n fm)) (hr : Room k X.A) (hb : Binds X.K fd ps []) (ho : PED cs X a ma) (ha : PAD cs X (e :: es) mm) (hx : x ∉ fn := by decide +kernel)
    (hst : starEach (e :: es) X.env = (false, eval e X.env) :: starEach es X.env := by rfl) (hpl : (backTo pos (starEach es X.env)).any (·.1) = false := by rfl)
    (ht : eval (.Call (.Attribute a x apos) (e :: es) [] pos) X.env = (do
      let ov ← eval a X.env
      standAt apos.atName
      let (f, first) ← holding [ov] (getMethod ov x pl)
      callWith pos f first (backTo pos (starEach (e :: es) X.env)) (backToKw pos (keywordEach [] X.env))) := by rfl) :
    PED cs X (.Call (.Attribute a x apos) (e :: es) [] pos) (mMeth c (lenM n fm) ma mm) := by
  obtain ⟨ta, a1, a2⟩ := ho.ex
  obtain ⟨t, t1, t2⟩ := ha.ex
  have F' : FnOk X.prog X.w X.K X.mg X.base CX0 k f fd ps (spD X.K cs n (lenM n fm)) := F.ok.imp fun vs H Q E h => spD_len h
  exact ⟨_, pe_meth a1 T.cl hm F' hr hb .nil pass0 t1 hst hpl ht, meth_ev T hx a2 t2 lenM_len⟩
theorem p_meth0 {n : Nat} {x : Str} {apos : Pos} {pl : Sem Bool} (T : ClsAt X.K cs c C fn) (hm : Meth X.K C x f) (F : FnD false X.prog X.w X.K X.mg X.base k f fd ps (spD X.K cs n fm)) (hr : Room k X.A) (hb : Binds X.K fd ps []) (ho : PED cs X a ma) (hx : x ∉ fn := by decide +kernel)
    (ht : eval (.Call (.Attribute a x apos) [] [] pos) X.env = (do
      let ov ← eval a X.env
      standAt apos.atName
      let (f, first) ← holding [ov] (getMethod ov x pl)
      callWith pos f first (backTo pos (starEach [] X.env)) (backToKw pos (keywordEach [] X.env))) := by rfl) :
    PED cs X (.Call (.Attribute a x apos) [] [] pos) (mMeth c (lenM n fm) ma mNil) := by
  obtain ⟨ta, a1, a2⟩ := ho.ex
  have F' : FnOk X.prog X.w X.K X.mg X.base CX0 k f fd ps (spD X.K cs n (lenM n fm)) := F.ok.imp fun vs H Q E h => spD_len h
  refine ⟨_, pe_meth0 a1 T.cl hm F' hr hb .nil pass0 ht, meth_ev T hx a2 (fun ap H0 B0 B σ env H p Q d p' k hm q => ?_) lenM_len⟩
  cases hm
  exact q B H [] (Nxt.refl k.bh) k.pot reps_nil
/-- e.f, a property -/
def mProp (c : Nat) (f : List D → Mo D) (a : Env' → Mo D) : Env' → Mo D := fun env => bindM (a env) fun x => onC c f [x]
theorem p_prop {x : Str} {pa : Addr} (T : ClsAt X.K cs c C fn) (hp : PropOf X.K C x pa f) (F : FnD false X.prog X.w X.K X.mg X.base k f fd ps (spD X.K cs 1 fm)) (hr : Room (k + 1) X.A) (hb : Binds X.K fd ps []) (ha : PED cs X e ma) (hab : attributeBase e x X.env (eval e X.env) = eval e X.env := by rfl) :
    PED cs X (.Attribute e x pos) (mProp c fm ma) := by
  obtain ⟨ta, a1, a2⟩ := ha.ex
  refine ⟨_, pe_prop a1 T.cl hp F.ok hr hb .nil pass0 hab, fun ap H0 B0 B σ env H p Q d p' k hm q => ?_⟩
  obtain ⟨y, p1, e1, e2⟩ := bindM_some hm
  unfold onC at e2
  cases y <;> first | (cases e2; done) | skip
  rename_i c' gs
  dsimp only at e2
  split at e2
  case isFalse => cases e2
  rename_i hc
  subst hc
  refine a2 ap H0 B0 B σ env H p _ _ p1 k e1 fun B1 H1 v n1 hp1 r1 => ?_
  have k1 := k.nxt n1 hp1
  obtain ⟨a', dx, fs, rfl, h2, h3, h4⟩ := rep_ins T r1
  exact ⟨a', dx, fs, rfl, n1.bh _ _ h2, ap, B1, _, p1, d, p', rfl, k1.bh, hp1, k1.bap, reps_cons r1 reps_nil, e2, fun B' H' w n3 hp3 r3 => q B' H' w (n1.trans n3) hp3 r3⟩
/-- a new instance: the promise of C(..) -/
def spMk (K : PySem.W.Frag) (cs : CT) (C : Addr) (n : Nat) (f : List D → Mo D) : Sp := fun vs H Q _ => ∃ x dx H1 us, vs = .ref x :: us ∧ us.length = n ∧ H = upd (upd H1 dx (.own x)) x (.ins C dx []) ∧ H1 x = none ∧ H1 dx = none ∧ dx ≠ x ∧ ∃ ap B ds p d p', Ex B H1 ∧ PotAt ap H1 p ∧ B ap = none ∧ Reps K cs ap B ds us ∧ f ds p = some (d, p') ∧
  ∀ B' H' , Nxt ap B H1 B' H' → PotAt ap H' p' → Rep K cs ap B' d (.ref x) → Q .non H'
theorem p_make {n : Nat} {x : Str} {p : Pos} {mm : Env' → Mo (List D)} {dvs : List V} {dds : List D} {dus : List Value} (M : Mk X.K C f) (F : FnOk X.prog X.w X.K X.mg X.base CX0 k f fd ps (spMk X.K cs C (n + dvs.length) fm)) (hr : Room (k + 1) X.A) (hm : X.mg x = some (.ref C)) (hb : Binds X.K fd ps dus) (hd : Vals dvs dus) (hrd : ∀ ap B, Reps X.K cs ap B dds dvs)
    (ha : PAD cs X (e :: es) mm) (hg : Gl X x := by rfl) (hdb : (x == ("__debug__" : Str)) = false := by decide) (he : starEach (e :: es) X.env = (false, eval e X.env) :: starEach es X.env := by rfl) (hpl : (backTo pos (starEach es X.env)).any (·.1) = false := by rfl) :
    PED cs X (.Call (.Name x p) (e :: es) [] pos) (mCall (fun ds => lenM n (fun ds => fm (ds ++ dds)) ds) mm) := by
  obtain ⟨ta, a1, a2⟩ := ha.ex
  refine ⟨_, pe_make M F hr hg hm hb hd pass0 a1 hdb he hpl, fun ap H0 B0 B σ env H p Q d p' k hm q => ?_⟩
  obtain ⟨ds, p1, e1, e2⟩ := bindM_some hm
  unfold lenM at e2
  split at e2
  case isFalse => cases e2
  rename_i hl
  refine a2 ap H0 B0 B σ env H p _ ds p1 k e1 fun B1 H1 vs n1 hp1 r1 x' dx hx hdx hne => ?_
  have k1 := k.nxt n1 hp1
  exact ⟨x', dx, H1, _, rfl, by rw [List.length_append, r1.length, hl], rfl, hx, hdx, hne, ap, B1, ds ++ dds, p1, d, p', k1.bh, hp1, k1.bap, r1.append (hrd ap B1), e2, fun B' H' n2 hp2 r2 => ⟨rfl, q B' H' _ (n1.trans n2) hp2 r2⟩⟩
/-! ### own operators -/
structure TyF (K : PySem.W.Frag) (C : Addr) : Prop where
  cl : Cls K C
  ca : PySem.W.findIn K (.ref C) "__class__" = some (some (.builtin "object.__class__"))
  sg : PySem.W.specialIn K (.builtin "object.__class__") "__get__" = some (some (.builtin "getset_descriptor.__get__"))
  tk : PySem.W.takesIn K (.builtin "object.__class__") = some true
  mo : PySem.W.mroIn K C (.type "object") = some true
/-- what an own operator wants of the class -/
structure OpF (K : PySem.W.Frag) (C f : Addr) (op : Operator) : Prop where
  sf : PySem.W.selfFirst K C = true
  at_ : PySem.W.findIn K (.ref C) (PySem.dunder op.info.2) = some (some (.ref f))
  fn : PySem.W.isFn K (.ref f) = true
  rf : ∃ rc, PySem.W.findIn K (.ref C) (dunderR op.info.2) = some rc ∧ (rc = none ∨ ∃ g : Addr, rc = some (.ref g))
  i1 : ∃ fo, PySem.W.findIn K (.type "int") (PySem.dunder op.info.2) = some fo
  i2 : ∃ ro, PySem.W.findIn K (.type "int") (dunderR op.info.2) = some ro
  sb : PySem.W.subIn K (.type "int") (.ref C) = some false
def dUser (c : Nat) (f : List D → Mo D) : D → D → Mo D := fun x y => match x, y with
  | .ins c' gs, .int j => if c' = c then f [.ins c' gs, .int j] else failM
  | .ins c' gs, .ins c'' hs => if c' = c ∧ c'' = c then f [.ins c' gs, .ins c'' hs] else failM
  | _, _ => failM
def rUser (K : PySem.W.Frag) (cs : CT) (C : Addr) (fm : List D → Mo D) : R2 := fun x y H Q => ∃ a dx fs, x = .ref a ∧ H a = some (.ins C dx fs) ∧ ((∃ j, y = .int j) ∨ ∃ b dy gs, y = .ref b ∧ H b = some (.ins C dy gs)) ∧ spD K cs 2 fm [x, y] H Q E0
theorem rel_back {v : V} {u : Value} {Q : Value → Shared → Prop} {s : Shared} (r : L2.RelV v u) (h : Q u s) : PySem.W.CmpBack Q u s := by
  cases v <;> simp only [L2.RelV] at r <;> first | (subst r; exact h) | (obtain ⟨t, rfl⟩ := r; exact h)
theorem opR_user {op : Operator} (O : OpF X.K C f op) (F : FnD false X.prog X.w X.K X.mg X.base k f fd ps (spD X.K cs 2 fm)) (hr : Room k X.A) (hb : Binds X.K fd ps []) : OpR X (binaryOp op) (rUser X.K cs C fm) := by
  intro pins s σ H x y v u Q I rx ry h
  obtain ⟨a', dx, fs, rfl, ha, hy, hs⟩ := h
  cases rx
  obtain ⟨mA, J, _⟩ := ins_get I.hok ha
  obtain ⟨od, J, _⟩ := J.look
  obtain ⟨m', hF⟩ := I.fr
  have hlen : ps.length = 2 := (F.len _ _ _ _ hs).symm
  have run : ∀ w, L2.RelV y w → wpAny (model X.prog X.w) X.A (call (.ref f) [.ref a', w]) (PySem.W.CmpBack (EP X pins σ Q)) X.xe s := fun w rw' => by
    have hb1 := hb s [.ref a', w] I.kIn (by rw [List.append_nil, hlen]; rfl)
    rw [List.append_nil] at hb1
    refine thn (call_d (pv := [.ref a', w]) (kw := []) F hr (fun z => nomatch z) hb1 I (.cons (show L2.RelV (V.ref a') (Value.ref a') from rfl) (.cons rw' .nil)) hs) fun w2 s2 hq => ?_
    obtain ⟨v2, H2, I2, r2, q2⟩ := hq
    exact rel_back r2 ⟨v2, H2, I2, r2, q2⟩
  rcases hy with ⟨j, rfl⟩ | ⟨b', dy, gs, rfl, hb'⟩
  · obtain ⟨t, rfl⟩ := ry
    obtain ⟨rc, r1, r2⟩ := O.rf
    obtain ⟨fo, i1⟩ := O.i1
    obtain ⟨ro, i2⟩ := O.i2
    exact PySem.W.ksp_binT hF I.ok.mod.kin J rfl O.sf O.at_ O.fn r1 r2 i1 i2 O.sb (run _ ⟨t, rfl⟩)
  · cases ry
    obtain ⟨mB, J', _⟩ := ins_get I.hok hb'
    obtain ⟨od', J', _⟩ := J'.look
    exact PySem.W.binop_K hF I.ok.mod.kin J J'.type O.sf O.at_ O.fn (run _ rfl)
theorem opD_user {op : Operator} (T : ClsAt X.K cs c C fn) (O : OpF X.K C f op) (F : FnD false X.prog X.w X.K X.mg X.base k f fd ps (spD X.K cs 2 fm)) (hr : Room k X.A) (hb : Binds X.K fd ps []) : OpD cs X (binaryOp op) (dUser c fm) := by
  refine ⟨_, opR_user O F hr hb, fun ap B H p x y v u Q d p' e hp hbp rx ry hm q => ?_⟩
  unfold dUser at hm
  split at hm
  · split at hm
    case isFalse => cases hm
    rename_i hc
    subst hc
    obtain ⟨a', dx, fs, rfl, h2, h3, h4⟩ := rep_ins T rx
    have ry' := ry
    simp only [Rep] at ry'
    subst ry'
    exact ⟨a', dx, fs, rfl, e _ _ h2, .inl ⟨_, rfl⟩, ap, B, _, p, d, p', rfl, e, hp, hbp, reps_cons rx (reps_cons ry reps_nil), hm, q⟩
  · split at hm
    case isFalse => cases hm
    rename_i hc
    obtain ⟨hc, hc'⟩ := hc
    subst hc; subst hc'
    obtain ⟨a', dx, fs, rfl, h2, h3, h4⟩ := rep_ins T rx
    obtain ⟨b', dy, gs, rfl, g2, g3, g4⟩ := rep_ins T ry
    exact ⟨a', dx, fs, rfl, e _ _ h2, .inr ⟨b', dy, gs, rfl, e _ _ g2⟩, ap, B, _, p, d, p', rfl, e, hp, hbp, reps_cons rx (reps_cons ry reps_nil), hm, q⟩
  · cases hm
/-! ### isinstance -/
inductive IT where
  | ty (n : String) | cl (c : Nat)
/-- the built-in type of a datum -/
def tyN : D → Option String
  | .non => some "NoneType"
  | .bl _ => some "bool"
  | .int _ => some "int"
  | .str _ => some "str"
  | .lst _ => some "list"
  | .tup _ => some "tuple"
  | .ed => some "dict"
  | _ => none
def tyNames : List String := ["NoneType", "bool", "int", "str", "list", "tuple", "dict"]
/-- the answers that are used -/
def isT : String → D → Option Bool
  | "int", .int _ => some true
  | "int", .bl _ => some true
  | "int", .non => some false
  | "int", .str _ => some false
  | "int", .lst _ => some false
  | "int", .tup _ => some false
  | "int", .ins _ _ => some false
  | "int", .ed => some false
  | "bool", .bl _ => some true
  | "bool", .int _ => some false
  | "bool", .non => some false
  | "bool", .str _ => some false
  | "bool", .lst _ => some false
  | "bool", .tup _ => some false
  | "bool", .ins _ _ => some false
  | "bool", .ed => some false
  | "list", .lst _ => some true
  | "list", .bl _ => some false
  | "list", .int _ => some false
  | "list", .non => some false
  | "list", .str _ => some false
  | "list", .tup _ => some false
  | "list", .ins _ _ => some false
  | "list", .ed => some false
  | "tuple", .tup _ => some true
  | "tuple", .bl _ => some false
  | "tuple", .int _ => some false
  | "tuple", .non => some false
  | "tuple", .str _ => some false
  | "tuple", .lst _ => some false
  | "tuple", .ins _ _ => some false
  | "tuple", .ed => some false
  | "str", .str _ => some true
  | "str", .bl _ => some false
  | "str", .int _ => some false
  | "str", .non => some false
  | "str", .lst _ => some false
  | "str", .tup _ => some false
  | "str", .ins _ _ => some false
  | "str", .ed => some false
  | _, _ => none
def isC (c : Nat) : D → Option Bool
  | .ins c' _ => some (c' == c)
  | .non => some false
  | .bl _ => some false
  | .int _ => some false
  | .str _ => some false
  | .lst _ => some false
  | .tup _ => some false
  | .ed => some false
  | _ => none
/-- what is known of the classes: their own type, that they are no built-in ones, that they are unlike -/
structure IsiF (K : PySem.W.Frag) (cs : CT) : Prop where
  ty : ∀ c C fn, cs c = some (C, fn) → TyF K C
  b : ∀ c C fn, cs c = some (C, fn) → ∀ n ∈ ["int", "bool", "list", "tuple", "str"], PySem.W.kitOne K (.ref C) (.type n) = some false
  o : ∀ c C fn, cs c = some (C, fn) → ∀ n ∈ tyNames, PySem.W.kitOne K (.type n) (.ref C) = some false
  cc : ∀ c C fn c' C' fn', cs c = some (C, fn) → cs c' = some (C', fn') → PySem.W.kitOne K (.ref C) (.ref C') = some (c == c')
/-- a datum's type for the library -/
theorem ty_of {K : PySem.W.Frag} {ap : Addr} {B H : Hp} {d : D} {v : V} (I : IsiF K cs) (e : Ex B H) (r : Rep K cs ap B d v) : (∃ n, tyN d = some n ∧ n ∈ tyNames ∧ TyX K H v (.type n)) ∨ (∃ c ds C fn, d = .ins c ds ∧ cs c = some (C, fn) ∧ TyX K H v (.ref C)) ∨ d = .pot := by
  cases d with
  | non => simp only [Rep] at r; subst r; exact .inl ⟨_, rfl, by decide, .base .non⟩
  | bl b => simp only [Rep] at r; subst r; exact .inl ⟨_, rfl, by decide, .base (.bl b)⟩
  | int i => simp only [Rep] at r; subst r; exact .inl ⟨_, rfl, by decide, .base (.int i)⟩
  | str x => simp only [Rep] at r; subst r; exact .inl ⟨_, rfl, by decide, .base (.str x)⟩
  | lst ds => simp only [Rep] at r; obtain ⟨a, xs, rfl, h, _⟩ := r; exact .inl ⟨_, rfl, by decide, .base (.lst (e _ _ h))⟩
  | tup ds =>
    simp only [Rep] at r
    obtain ⟨a, xs, rfl, h, _⟩ := r
    refine .inl ⟨_, rfl, by decide, ?_⟩
    rcases h with (h | ⟨o, h⟩) | ⟨o, its, n, h, hc, _⟩
    · exact .base (.tup (e _ _ h))
    · exact .fTuple (e _ _ h)
    · exact .kTuple h hc
  | ins c ds =>
    simp only [Rep] at r
    obtain ⟨a, C, fn, dx, fs, rfl, h1, h2, _⟩ := r
    have t := I.ty c C fn h1
    exact .inr (.inl ⟨c, ds, C, fn, rfl, h1, .base (.ins (e _ _ h2) t.cl t.ca t.sg t.tk t.mo)⟩)
  | pot => exact .inr (.inr rfl)
  | ed => simp only [Rep] at r; obtain ⟨a, rfl, h⟩ := r; exact .inl ⟨_, rfl, by decide, .base (.dK (e _ _ h))⟩
theorem isT_kit {K : PySem.W.Frag} {n T : String} {d : D} {b : Bool} (h : tyN d = some n) (hb : isT T d = some b) : PySem.W.kitOne K (.type n) (.type T) = some b := by
  refine kit_ty ?_
  unfold isT at hb
  split at hb <;> first | (cases hb; done) | (simp only [tyN] at h; cases h; done) | (simp only [tyN] at h; cases h; cases hb; decide +kernel)
theorem isT_mem {T : String} {d : D} {b : Bool} (hb : isT T d = some b) : T ∈ ["int", "bool", "list", "tuple", "str"] := by
  unfold isT at hb
  split at hb <;> first | (cases hb; done) | decide
theorem isT_ins {T : String} {c : Nat} {ds : List D} {b : Bool} (hb : isT T (.ins c ds) = some b) : b = false := by
  unfold isT at hb
  split at hb <;> first | (cases hb; done) | (cases hb; rfl) | skip
  all_goals (rename_i h; cases h)
def mIsT (T : String) (a : Env' → Mo D) : Env' → Mo D := fun env => bindM (a env) fun x => match isT T x with
  | some b => retM (.bl b)
  | none => failM
def mIsC (c : Nat) (a : Env' → Mo D) : Env' → Mo D := fun env => bindM (a env) fun x => match isC c x with
  | some b => retM (.bl b)
  | none => failM
/-- (T, U) -/
def mIsT2 (T U : String) (a : Env' → Mo D) : Env' → Mo D := fun env => bindM (a env) fun x => match isT T x, isT U x with
  | some b, some b' => retM (.bl (b || b'))
  | _, _ => failM
theorem kit_T {K : PySem.W.Frag} {ap : Addr} {B H : Hp} {d : D} {v : V} {T : String} {b : Bool} (I : IsiF K cs) (e : Ex B H) (r : Rep K cs ap B d v) (hb : isT T d = some b) : ∃ t, TyX K H v t ∧ PySem.W.kitOne K t (.type T) = some b := by
  rcases ty_of I e r with ⟨n, h1, h2, h3⟩ | ⟨c, ds, C, fn, rfl, h1, h2⟩ | rfl
  · exact ⟨_, h3, isT_kit h1 hb⟩
  · have := isT_ins hb
    subst this
    exact ⟨_, h2, I.b c C fn h1 T (isT_mem hb)⟩
  · unfold isT at hb
    split at hb <;> cases hb <;> rename_i h <;> cases h
end
end DL
end

section
set_option Elab.async false
set_option linter.all false
set_option maxRecDepth 100000
set_option maxHeartbeats 4000000
/-! == and != of lists and tuples whose items may run code, both answers. -/
namespace DQ
open PySem PySem.SeqAt
open AutoSeq1 (wpAny_loadPart')
open MeetsSeq MeetsSeq2 MeetsSeq3 SeqRoads2
section
variable {prog : Program} {w : World} {A : Around} {R : Result → Shared → Prop}
/-- the lists, as they are read -/
def Two (s : Shared) (l b : Addr) (N : Nat) (items items2 : Array Value) : Prop := (∃ n, s.heap.get? l = some { cls := .type "list", data := .seq items n }) ∧ (∃ n, s.heap.get? b = some { cls := .type "list", data := .seq items2 n }) ∧ items.size = N ∧ items2.size = N
def opI (ne : Bool) : Int := if ne then 3 else 2
theorem loopB (ne : Bool) (l b : Addr) (N : Nat) (I : Nat → Shared → Prop) (J : Nat → Shared → Prop)
    (hl : ∀ i s, I i s → ∃ items items2, Two s l b N items items2 ∧ ∀ (h1 : i < items.size) (h2 : i < items2.size), wpAny (model prog w) A.in1 (eqBool items[i] items2[i]) (fun r s' => if r = true then I (i + 1) s' else J i s') (fun e s' => R (.error e) s') s)
    (hJ : ∀ i s, J i s → (∃ items items2, Two s l b N items items2) ∧ R (.ok (.ret (.bool ne))) s)
    (fin : ∀ s, I N s → R (.ok (.ret (.bool (!ne)))) s) (k : Nat) :
    ∀ i : Nat, N - i = k → i ≤ N → ∀ s, I i s →
      wpAny (model prog w) A.in1 (Builtin.«list.__eq__.loop» ⟨[.ref l, .ref b, rawInt i, rawInt (opI ne)], []⟩) (GQ.FinOf prog w A R) (fun e s' => R (.error e) s') s := by
  induction k with
  | zero =>
    intro i hk hi s h
    obtain ⟨items, items2, ⟨⟨n, hl1⟩, ⟨n2, hb1⟩, hs1, hs2⟩, _⟩ := hl _ _ h
    have hi' : i = N := by omega
    have hR := fin s (hi' ▸ h)
    have hi1 : items[((i : Nat) : Int).toNat]? = none := by simp; omega
    have hi2 : items2[((i : Nat) : Int).toNat]? = none := by simp; omega
    obtain ⟨hp, g, d, tk, os⟩ := s
    cases ne with
    | false =>
      wp_walk using wpAny_loadPart' hl1, wpAny_loadPart' hb1
      rw [hi1, hi2]
      wp_walk using wpAny_loadPart' hl1, wpAny_loadPart' hb1
      show R (.ok (.ret (.bool (items.size == items2.size)))) _
      rw [hs1, hs2]
      simpa using hR
    | true =>
      wp_walk using wpAny_loadPart' hl1, wpAny_loadPart' hb1
      rw [hi1, hi2]
      wp_walk using wpAny_loadPart' hl1, wpAny_loadPart' hb1
      show R (.ok (.ret (.bool (items.size != items2.size)))) _
      rw [hs1, hs2]
      simpa using hR
  | succ k ih =>
    intro i hk hi s h
    obtain ⟨items, items2, ⟨⟨n, hl1⟩, ⟨n2, hb1⟩, hs1, hs2⟩, turn⟩ := hl _ _ h
    have hlt : i < items.size := by omega
    have hlt2 : i < items2.size := by omega
    have ht := turn hlt hlt2
    have hi1 : items[((i : Nat) : Int).toNat]? = some items[i] := by simp [hlt]
    have hi2 : items2[((i : Nat) : Int).toNat]? = some items2[i] := by simp [hlt2]
    have hc : ((i : Int) + 1) = ((i + 1 : Nat) : Int) := by omega
    obtain ⟨hp, g, d, tk, os⟩ := s
    cases ne with
    | false =>
      wp_walk using wpAny_loadPart' hl1, wpAny_loadPart' hb1
      rw [hi1, hi2]
      refine wpAny_bind (wpAny_mono ht (fun r s2 h2 => ?_) fun _ _ x => x)
      cases r with
      | true =>
        rw [if_pos rfl] at h2
        have hrec := ih (i + 1) (by omega) (by omega) s2 h2
        obtain ⟨hp2, g2, d2, tk2, os2⟩ := s2
        wp_walk
        rw [hc]
        exact ⟨plainId_quiet plain_eq_loop _, codeAny_builtin entry_eq_loop (by
          rw [Around.under_plainId plain_eq_loop _]
          exact hrec)⟩
      | false =>
        rw [if_neg (by decide)] at h2
        obtain ⟨⟨it1, it2, ⟨m1, q1⟩, ⟨m2, q2⟩, z1, z2⟩, hR⟩ := hJ i s2 h2
        have y1 : it1[((i : Nat) : Int).toNat]? = some it1[i] := by simp
        have y2 : it2[((i : Nat) : Int).toNat]? = some it2[i] := by simp
        obtain ⟨hp2, g2, d2, tk2, os2⟩ := s2
        wp_walk using wpAny_loadPart' q1, wpAny_loadPart' q2
        rw [y1, y2]
        wp_walk
        exact hR
    | true =>
      wp_walk using wpAny_loadPart' hl1, wpAny_loadPart' hb1
      rw [hi1, hi2]
      refine wpAny_bind (wpAny_mono ht (fun r s2 h2 => ?_) fun _ _ x => x)
      cases r with
      | true =>
        rw [if_pos rfl] at h2
        have hrec := ih (i + 1) (by omega) (by omega) s2 h2
        obtain ⟨hp2, g2, d2, tk2, os2⟩ := s2
        wp_walk
        rw [hc]
        exact ⟨plainId_quiet plain_eq_loop _, codeAny_builtin entry_eq_loop (by
          rw [Around.under_plainId plain_eq_loop _]
          exact hrec)⟩
      | false =>
        rw [if_neg (by decide)] at h2
        obtain ⟨⟨it1, it2, ⟨m1, q1⟩, ⟨m2, q2⟩, z1, z2⟩, hR⟩ := hJ i s2 h2
        have y1 : it1[((i : Nat) : Int).toNat]? = some it1[i] := by simp
        have y2 : it2[((i : Nat) : Int).toNat]? = some it2[i] := by simp
        obtain ⟨hp2, g2, d2, tk2, os2⟩ := s2
        wp_walk using wpAny_loadPart' q1, wpAny_loadPart' q2
        rw [y1, y2]
        wp_walk
        exact hR
/-- the two lists compared: of one length, item by item; else at once -/
theorem listB (ne : Bool) (l b : Addr) (N : Nat) (I : Nat → Shared → Prop) (J : Nat → Shared → Prop)
    (hl : ∀ i s, I i s → ∃ items items2, Two s l b N items items2 ∧ ∀ (h1 : i < items.size) (h2 : i < items2.size), wpAny (model prog w) A.in1 (eqBool items[i] items2[i]) (fun r s' => if r = true then I (i + 1) s' else J i s') (fun e s' => R (.error e) s') s)
    (hJ : ∀ i s, J i s → (∃ items items2, Two s l b N items items2) ∧ R (.ok (.ret (.bool ne))) s)
    (fin : ∀ s, I N s → R (.ok (.ret (.bool (!ne)))) s) {s : Shared} (h : I 0 s) :
    wpAny (model prog w) A.in1 ((if ne then Builtin.«list.__ne__» else Builtin.«list.__eq__») ⟨[.ref l, .ref b], []⟩) (GQ.FinOf prog w A R) (fun e s' => R (.error e) s') s := by
  obtain ⟨items, items2, ⟨⟨n, hl1⟩, ⟨n2, hb1⟩, hs1, hs2⟩, _⟩ := hl _ _ h
  have hrec := loopB (A := A) (R := R) ne l b N I J hl hJ fin _ 0 rfl (Nat.zero_le _) s h
  obtain ⟨hp, g, d, tk, os⟩ := s
  have f3 := AutoSeq1.sub_list_list
  have hne : ¬ (items.size != items2.size) = true := by simp [hs1, hs2]
  cases ne with
  | false =>
    rw [if_neg (by decide)]
    wp_walk using wpAny_loadPart' hl1, wpAny_loadPart' hb1
    exact ⟨plainId_quiet plain_eq_loop _, codeAny_builtin entry_eq_loop (by
      rw [Around.under_plainId plain_eq_loop _]
      exact hrec)⟩
  | true =>
    rw [if_pos rfl]
    wp_walk using wpAny_loadPart' hl1, wpAny_loadPart' hb1
    exact ⟨plainId_quiet plain_eq_loop _, codeAny_builtin entry_eq_loop (by
      rw [Around.under_plainId plain_eq_loop _]
      exact hrec)⟩
theorem listU (ne : Bool) {l b : Addr} {items items2 : Array Value} {n n2 : Nat} {s : Shared} (hl1 : s.heap.get? l = some { cls := .type "list", data := .seq items n }) (hb1 : s.heap.get? b = some { cls := .type "list", data := .seq items2 n2 }) (hz : items.size ≠ items2.size) (h : R (.ok (.ret (.bool ne))) s) :
    wpAny (model prog w) A.in1 ((if ne then Builtin.«list.__ne__» else Builtin.«list.__eq__») ⟨[.ref l, .ref b], []⟩) (GQ.FinOf prog w A R) (fun e s' => R (.error e) s') s := by
  have f3 := AutoSeq1.sub_list_list
  have hne : (items.size != items2.size) = true := by simpa using hz
  obtain ⟨hp, g, d, tk, os⟩ := s
  cases ne with
  | false =>
    rw [if_neg (by decide)]
    wp_walk using wpAny_loadPart' hl1, wpAny_loadPart' hb1
    exact h
  | true =>
    rw [if_pos rfl]
    wp_walk using wpAny_loadPart' hl1, wpAny_loadPart' hb1
    exact h
end
end DQ
end

section
set_option Elab.async false
set_option linter.all false
set_option maxRecDepth 100000
set_option maxHeartbeats 4000000
/-! == of tuples, both answers; == and != of data. -/
namespace DQ
open PySem PySem.SeqAt
open AutoSeq1 (wpAny_loadPart')
open MeetsSeq MeetsSeq2 MeetsSeq3 SeqRoads2
section
variable {prog : Program} {w : World} {A : Around} {R : Result → Shared → Prop}
/-- tuples: item by item, J behind an unequal pair; then the lengths -/
theorem tupB (ne : Bool) (l b : Addr) (xs ys : Array Value) (n n2 : Nat) (dd dd2 : Option Addr) (sl sl2 : Array (Option Value)) (I J : Nat → Shared → Prop)
    (turn : ∀ i (h1 : i < xs.size) (h2 : i < ys.size) s, I i s → wpAny (model prog w) A.in1 (eqBool xs[i] ys[i]) (fun r s' => if r = true then I (i + 1) s' else J i s') (fun e s' => R (.error e) s') s)
    (hJ : ∀ i s, J i s → R (.ok (.ret (.bool ne))) s) (fin : ∀ s, I (min xs.size ys.size) s → R (.ok (.ret (.bool ((xs.size == ys.size) != ne)))) s)
    {s : Shared} (hl1 : s.heap.get? l = some { cls := .type "tuple", dict := dd, data := .seq xs n, slots := sl }) (hb1 : s.heap.get? b = some { cls := .type "tuple", dict := dd2, data := .seq ys n2, slots := sl2 }) (h : I 0 s) :
    wpAny (model prog w) A.in1 ((if ne then Builtin.«tuple.__ne__» else Builtin.«tuple.__eq__») ⟨[.ref l, .ref b], []⟩) (GQ.FinOf prog w A R) (fun e s' => R (.error e) s') s := by
  have f2 := AutoSeq1.sub_tuple_tuple
  have hZ : (xs.toList.zip ys.toList).length = min xs.size ys.size := by simp
  have h0 := h
  obtain ⟨hp, g, d, tk, os⟩ := s
  cases ne with
  | false =>
    rw [if_neg (by decide)]
    wp_walk using wpAny_loadPart' hl1, wpAny_loadPart' hb1, wpAny_forIn_list _ (fun rest b s' => b.1 = none ∧ ∃ i, rest = (xs.toList.zip ys.toList).drop i ∧ i ≤ min xs.size ys.size ∧ I i s') _
    case turn =>
      rintro ⟨y, x⟩ rest b s' ⟨hb', i, hz, hi, hI⟩
      have hlt : i < (xs.toList.zip ys.toList).length := by
        rcases Nat.lt_or_ge i (xs.toList.zip ys.toList).length with h' | h'
        · exact h'
        · rw [List.drop_of_length_le h'] at hz; cases hz
      have hm : i < min xs.size ys.size := hZ ▸ hlt
      have h1 : i < xs.size := Nat.lt_of_lt_of_le hm (Nat.min_le_left _ _)
      have h2 : i < ys.size := Nat.lt_of_lt_of_le hm (Nat.min_le_right _ _)
      rw [List.drop_eq_getElem_cons hlt] at hz
      injection hz with hyx hrest
      have hy : y = xs[i] := by have := congrArg Prod.fst hyx; simpa using this
      have hx : x = ys[i] := by have := congrArg Prod.snd hyx; simpa using this
      subst hy hx
      refine wpAny_bind (wpAny_mono (turn i h1 h2 s' hI) (fun r s2 q2 => ?_) fun _ _ x => x)
      cases r with
      | true =>
        rw [if_pos rfl] at q2
        wp_walk
        exact ⟨rfl, i + 1, hrest, hm, q2⟩
      | false =>
        rw [if_neg (by decide)] at q2
        have q3 := hJ i s2 q2
        wp_walk
        exact q3
    case fin =>
      rintro ⟨b1, b2⟩ s' ⟨hb', i, hz, hi, hI⟩
      simp only at hb'
      subst hb'
      have hge : min xs.size ys.size ≤ i := by
        rcases Nat.lt_or_ge i (xs.toList.zip ys.toList).length with h' | h'
        · rw [List.drop_eq_getElem_cons h'] at hz; cases hz
        · exact hZ ▸ h'
      have hi' : i = min xs.size ys.size := by omega
      have hR := fin s' (hi' ▸ hI)
      wp_walk
      simpa [Builtin.Tuple.tupleCompareSizes, bne] using hR
    case h =>
      exact ⟨rfl, 0, rfl, Nat.zero_le _, h0⟩
  | true =>
    rw [if_pos rfl]
    wp_walk using wpAny_loadPart' hl1, wpAny_loadPart' hb1, wpAny_forIn_list _ (fun rest b s' => b.1 = none ∧ ∃ i, rest = (xs.toList.zip ys.toList).drop i ∧ i ≤ min xs.size ys.size ∧ I i s') _
    case turn =>
      rintro ⟨y, x⟩ rest b s' ⟨hb', i, hz, hi, hI⟩
      have hlt : i < (xs.toList.zip ys.toList).length := by
        rcases Nat.lt_or_ge i (xs.toList.zip ys.toList).length with h' | h'
        · exact h'
        · rw [List.drop_of_length_le h'] at hz; cases hz
      have hm : i < min xs.size ys.size := hZ ▸ hlt
      have h1 : i < xs.size := Nat.lt_of_lt_of_le hm (Nat.min_le_left _ _)
      have h2 : i < ys.size := Nat.lt_of_lt_of_le hm (Nat.min_le_right _ _)
      rw [List.drop_eq_getElem_cons hlt] at hz
      injection hz with hyx hrest
      have hy : y = xs[i] := by have := congrArg Prod.fst hyx; simpa using this
      have hx : x = ys[i] := by have := congrArg Prod.snd hyx; simpa using this
      subst hy hx
      refine wpAny_bind (wpAny_mono (turn i h1 h2 s' hI) (fun r s2 q2 => ?_) fun _ _ x => x)
      cases r with
      | true =>
        rw [if_pos rfl] at q2
        wp_walk
        exact ⟨rfl, i + 1, hrest, hm, q2⟩
      | false =>
        rw [if_neg (by decide)] at q2
        have q3 := hJ i s2 q2
        wp_walk
        exact q3
    case fin =>
      rintro ⟨b1, b2⟩ s' ⟨hb', i, hz, hi, hI⟩
      simp only at hb'
      subst hb'
      have hge : min xs.size ys.size ≤ i := by
        rcases Nat.lt_or_ge i (xs.toList.zip ys.toList).length with h' | h'
        · rw [List.drop_eq_getElem_cons h'] at hz; cases hz
        · exact hZ ▸ h'
      have hi' : i = min xs.size ys.size := by omega
      have hR := fin s' (hi' ▸ hI)
      wp_walk
      simpa [Builtin.Tuple.tupleCompareSizes, bne] using hR
    case h =>
      exact ⟨rfl, 0, rfl, Nat.zero_le _, h0⟩
end
section
variable {prog : Program} {w : World} {A : Around} {E : Value → Shared → Prop} {s : Shared}
def opC (ne : Bool) : CmpOp := if ne then .NotEq else .Eq
theorem rcL (ne : Bool) {l b : Addr} {N : Nat} {Q : Value → Shared → Prop} (hu : A.units < cLine) (I J : Nat → Shared → Prop)
    (hl : ∀ i s, I i s → ∃ xs ys, Two s l b N xs ys ∧ ∀ (h1 : i < xs.size) (h2 : i < ys.size), wpAny (model prog w) A.in1 (eqBool xs[i] ys[i]) (fun r s' => if r = true then I (i + 1) s' else J i s') E s)
    (hJ : ∀ i s, J i s → (∃ xs ys, Two s l b N xs ys) ∧ Q (.bool ne) s)
    (fin : ∀ s, I N s → Q (.bool (!ne)) s) (h : I 0 s) : wpAny (model prog w) A (richCompare (opC ne) (.ref l) (.ref b)) Q E s := by
  obtain ⟨xs, ys, ⟨⟨n, hl1⟩, ⟨n2, hb1⟩, _, _⟩, _⟩ := hl _ _ h
  have key := listB (prog := prog) (w := w) (A := A) (R := wants (fun v s' => v ≠ .notImplemented ∧ Q v s') E) ne l b N I J hl (fun i s' q => ⟨(hJ i s' q).1, (fun x => nomatch x), (hJ i s' q).2⟩) (fun s' q => ⟨(fun x => nomatch x), fin s' q⟩) h
  cases ne with
  | false => exact wpAny_richCompare_same_room (op := .Eq) ⟨_, hl1, rfl⟩ ⟨_, hb1, rfl⟩ F.slot_list_eq (GQ.call_here F.slot_list_eq ⟨_, hl1, rfl⟩ F.entry_list_eq (F.args_list_eq_2 _ _) key) hu
  | true => exact wpAny_richCompare_same_room (op := .NotEq) ⟨_, hl1, rfl⟩ ⟨_, hb1, rfl⟩ F.slot_list_ne (GQ.call_here F.slot_list_ne ⟨_, hl1, rfl⟩ F.entry_list_ne (F.args_list_ne_2 _ _) key) hu
theorem rcU (ne : Bool) {l b : Addr} {xs ys : Array Value} {n n2 : Nat} {Q : Value → Shared → Prop} (hu : A.units < cLine) (hl1 : s.heap.get? l = some { cls := .type "list", data := .seq xs n }) (hb1 : s.heap.get? b = some { cls := .type "list", data := .seq ys n2 }) (hz : xs.size ≠ ys.size)
    (h : Q (.bool ne) s) : wpAny (model prog w) A (richCompare (opC ne) (.ref l) (.ref b)) Q E s := by
  have key := listU (prog := prog) (w := w) (A := A) (R := wants (fun v s' => v ≠ .notImplemented ∧ Q v s') E) ne hl1 hb1 hz ⟨(fun x => nomatch x), h⟩
  cases ne with
  | false => exact wpAny_richCompare_same_room (op := .Eq) ⟨_, hl1, rfl⟩ ⟨_, hb1, rfl⟩ F.slot_list_eq (GQ.call_here F.slot_list_eq ⟨_, hl1, rfl⟩ F.entry_list_eq (F.args_list_eq_2 _ _) key) hu
  | true => exact wpAny_richCompare_same_room (op := .NotEq) ⟨_, hl1, rfl⟩ ⟨_, hb1, rfl⟩ F.slot_list_ne (GQ.call_here F.slot_list_ne ⟨_, hl1, rfl⟩ F.entry_list_ne (F.args_list_ne_2 _ _) key) hu
theorem rcT (ne : Bool) {l b : Addr} {xs ys : Array Value} {Q : Value → Shared → Prop} (hu : A.units < cLine) (I J : Nat → Shared → Prop) (ha : s.heap.IsTuple l xs) (hb : s.heap.IsTuple b ys)
    (turn : ∀ i (h1 : i < xs.size) (h2 : i < ys.size) s, I i s → wpAny (model prog w) A.in1 (eqBool xs[i] ys[i]) (fun r s' => if r = true then I (i + 1) s' else J i s') E s)
    (hJ : ∀ i s, J i s → Q (.bool ne) s) (fin : ∀ s, I (min xs.size ys.size) s → Q (.bool ((xs.size == ys.size) != ne)) s) (h : I 0 s) : wpAny (model prog w) A (richCompare (opC ne) (.ref l) (.ref b)) Q E s := by
  obtain ⟨⟨cls, dd, data, sl⟩, ho, hc, n, hd⟩ := id ha
  obtain ⟨⟨cls2, dd2, data2, sl2⟩, ho2, hc2, n2, hd2⟩ := id hb
  simp only at hc hd hc2 hd2
  subst hc hd hc2 hd2
  have key := tupB (prog := prog) (w := w) (A := A) (R := wants (fun v s' => v ≠ .notImplemented ∧ Q v s') E) ne l b xs ys n n2 dd dd2 sl sl2 I J turn (fun i s' q => ⟨(fun x => nomatch x), hJ i s' q⟩) (fun s' q => ⟨(fun x => nomatch x), fin s' q⟩) ho ho2 h
  cases ne with
  | false => exact wpAny_richCompare_same_room (op := .Eq) ⟨_, ho, rfl⟩ ⟨_, ho2, rfl⟩ F.slot_tuple_eq (GQ.call_here F.slot_tuple_eq ⟨_, ho, rfl⟩ F.entry_tuple_eq (F.args_tuple_eq_2 _ _) key) hu
  | true => exact wpAny_richCompare_same_room (op := .NotEq) ⟨_, ho, rfl⟩ ⟨_, ho2, rfl⟩ F.slot_tuple_ne (GQ.call_here F.slot_tuple_ne ⟨_, ho, rfl⟩ F.entry_tuple_ne (F.args_tuple_ne_2 _ _) key) hu
end
end DQ
end

section
set_option Elab.async false
set_option linter.all false
set_option maxRecDepth 100000
set_option maxHeartbeats 4000000
/-! DL: == and != of data. -/
namespace DL
open PySem PySem.Spec PyProof.Rows L2
open Evl (Ex)
def flV : D → Option V
  | .non => some .non
  | .bl b => some (.bl b)
  | .int i => some (.int i)
  | .str x => some (.str x)
  | _ => none
def flatQ (x y : D) : Option Bool := match flV x, flV y with
  | some v, some u => some (eqV v u)
  | _, _ => none
/-- item by item, lists of one length -/
def eqL (f : D → D → Option Bool) : List D → List D → Option Bool
  | x :: xs, y :: ys => match f x y with
    | some true => eqL f xs ys
    | r => r
  | [], [] => some true
  | _, _ => none
/-- item by item, then the lengths -/
def eqT (f : D → D → Option Bool) : List D → List D → Option Bool
  | x :: xs, y :: ys => match f x y with
    | some true => eqT f xs ys
    | r => r
  | [], [] => some true
  | _, _ => some false
/-- x == y by data; u: of instances; none: nothing is said -/
def deq (u : Nat → List D → List D → Option Bool) : Nat → D → D → Option Bool
  | 0, x, y => flatQ x y
  | n + 1, x, y => match x, y with
    | .lst a, .lst b => if a.length = b.length then eqL (deq u n) a b else some false
    | .tup a, .tup b => eqT (deq u n) a b
    | .ins c fs, .ins c' gs => if c = c' then u c fs gs else none
    | x, y => flatQ x y
/-- the own == of the classes -/
structure UEq (X : Cx) (cs : CT) (k : Nat) (u : Nat → List D → List D → Option Bool) : Prop where
  of : ∀ c fs gs b, u c fs gs = some b → ∃ C fn f fd ps fm, ClsAt X.K cs c C fn ∧ PySem.W.findIn X.K (.ref C) "__eq__" = some (some (.ref f)) ∧ PySem.W.isFn X.K (.ref f) = true ∧ FnD false X.prog X.w X.K X.mg X.base k f fd ps (spD X.K cs 2 fm) ∧ Binds X.K fd ps [] ∧ ∀ p, fm [.ins c fs, .ins c gs] p = some (.bl b, p)
  rf : ∀ c fs b, u c fs fs = some b → b = true
  inj : ∀ c c' C fn fn', cs c = some (C, fn) → cs c' = some (C, fn') → c = c'

section
variable {K : PySem.W.Frag} {cs : CT} {ap : Addr} {B : Hp}
/-- a value is one datum -/
theorem rep_inj (hinj : ∀ c c' C fn fn', cs c = some (C, fn) → cs c' = some (C, fn') → c = c') (hT : ∀ a xs ys, SqT K B a xs → SqT K B a ys → xs = ys) (hL : ∀ a zs, B a = some (.lst zs) → ∀ ys, ¬ SqT K B a ys) (hI : ∀ a C dx fs, B a = some (.ins C dx fs) → ∀ ys, ¬ SqT K B a ys) (hK : ∀ a kvs, B a = some (.dK kvs) → ∀ ys, ¬ SqT K B a ys) (hP : ∀ ys, ¬ SqT K B ap ys) (hB : B ap = none) :
    ∀ d, ∀ e v, Rep K cs ap B d v → Rep K cs ap B e v → d = e := by
  intro d
  refine D.rec (motive_1 := fun d => ∀ e v, Rep K cs ap B d v → Rep K cs ap B e v → d = e) (motive_2 := fun ds => ∀ es xs, Reps K cs ap B ds xs → Reps K cs ap B es xs → ds = es) ?_ ?_ ?_ ?_ ?_ ?_ ?_ ?_ ?_ ?_ ?_ d
  · intro e v h h'
    simp only [Rep] at h
    subst h
    cases e <;> simp only [Rep] at h' <;> first | rfl | (cases h'; done) | (obtain ⟨_, z, _⟩ := h'; exact absurd z (fun y => nomatch y)) | (obtain ⟨_, _, z, _⟩ := h'; exact absurd z (fun y => nomatch y)) | (obtain ⟨_, _, _, _, _, z, _⟩ := h'; exact absurd z (fun y => nomatch y))
  · intro b e v h h'
    simp only [Rep] at h
    subst h
    cases e <;> simp only [Rep] at h' <;> first | (cases h'; rfl) | (cases h'; done) | (obtain ⟨_, z, _⟩ := h'; exact absurd z (fun y => nomatch y)) | (obtain ⟨_, _, z, _⟩ := h'; exact absurd z (fun y => nomatch y)) | (obtain ⟨_, _, _, _, _, z, _⟩ := h'; exact absurd z (fun y => nomatch y))
  · intro b e v h h'
    simp only [Rep] at h
    subst h
    cases e <;> simp only [Rep] at h' <;> first | (cases h'; rfl) | (cases h'; done) | (obtain ⟨_, z, _⟩ := h'; exact absurd z (fun y => nomatch y)) | (obtain ⟨_, _, z, _⟩ := h'; exact absurd z (fun y => nomatch y)) | (obtain ⟨_, _, _, _, _, z, _⟩ := h'; exact absurd z (fun y => nomatch y))
  · intro b e v h h'
    simp only [Rep] at h
    subst h
    cases e <;> simp only [Rep] at h' <;> first | (cases h'; rfl) | (cases h'; done) | (obtain ⟨_, z, _⟩ := h'; exact absurd z (fun y => nomatch y)) | (obtain ⟨_, _, z, _⟩ := h'; exact absurd z (fun y => nomatch y)) | (obtain ⟨_, _, _, _, _, z, _⟩ := h'; exact absurd z (fun y => nomatch y))
  · intro ds ih e v h h'
    simp only [Rep] at h
    obtain ⟨a, xs, rfl, h1, h2⟩ := h
    cases e <;> simp only [Rep] at h' <;> first | (cases h'; done) | skip
    · obtain ⟨a', ys, z, g1, g2⟩ := h'
      cases z
      rw [h1] at g1
      cases g1
      rw [ih _ _ h2 g2]
    · obtain ⟨a', ys, z, g1, g2⟩ := h'
      cases z
      exact absurd g1 (hL _ _ h1 _)
    · obtain ⟨a', C, fn, dx, fs, z, g0, g1, g2⟩ := h'
      cases z
      rw [h1] at g1
      cases g1
    · cases h'
      rw [hB] at h1
      cases h1
    · obtain ⟨a', z, g1⟩ := h'
      cases z
      rw [h1] at g1
      cases g1
  · intro ds ih e v h h'
    simp only [Rep] at h
    obtain ⟨a, xs, rfl, h1, h2⟩ := h
    cases e <;> simp only [Rep] at h' <;> first | (cases h'; done) | skip
    · obtain ⟨a', ys, z, g1, g2⟩ := h'
      cases z
      exact absurd h1 (hL _ _ g1 _)
    · obtain ⟨a', ys, z, g1, g2⟩ := h'
      cases z
      rw [hT _ _ _ h1 g1] at h2
      rw [ih _ _ h2 g2]
    · obtain ⟨a', C, fn, dx, fs, z, g0, g1, g2⟩ := h'
      cases z
      exact absurd h1 (hI _ _ _ _ g1 _)
    · cases h'
      exact absurd h1 (hP _)
    · obtain ⟨a', z, g1⟩ := h'
      cases z
      exact absurd h1 (hK _ _ g1 _)
  · intro c ds ih e v h h'
    simp only [Rep] at h
    obtain ⟨a, C, fn, dx, fs, rfl, h0, h1, h2, h3⟩ := h
    cases e <;> simp only [Rep] at h' <;> first | (cases h'; done) | skip
    · obtain ⟨a', ys, z, g1, g2⟩ := h'
      cases z
      rw [h1] at g1
      cases g1
    · obtain ⟨a', ys, z, g1, g2⟩ := h'
      cases z
      exact absurd g1 (hI _ _ _ _ h1 _)
    · obtain ⟨a', C', fn', dx', fs', z, g0, g1, g2, g3⟩ := h'
      cases z
      rw [h1] at g1
      cases g1
      rw [hinj _ _ _ _ _ h0 g0, ih _ _ h3 g3]
    · cases h'
      rw [hB] at h1
      cases h1
    · obtain ⟨a', z, g1⟩ := h'
      cases z
      rw [h1] at g1
      cases g1
  · intro e v h h'
    simp only [Rep] at h
    subst h
    cases e <;> simp only [Rep] at h' <;> first | rfl | (cases h'; done) | skip
    · obtain ⟨a', ys, z, g1, g2⟩ := h'
      cases z
      rw [hB] at g1
      cases g1
    · obtain ⟨a', ys, z, g1, g2⟩ := h'
      cases z
      exact absurd g1 (hP _)
    · obtain ⟨a', C, fn, dx, fs, z, g0, g1, g2⟩ := h'
      cases z
      rw [hB] at g1
      cases g1
    · obtain ⟨a', z, g1⟩ := h'
      cases z
      rw [hB] at g1
      cases g1
  · intro e v h h'
    simp only [Rep] at h
    obtain ⟨a, rfl, h1⟩ := h
    cases e <;> simp only [Rep] at h' <;> first | rfl | (cases h'; done) | skip
    · obtain ⟨a', ys, z, g1, g2⟩ := h'
      cases z
      rw [h1] at g1
      cases g1
    · obtain ⟨a', ys, z, g1, g2⟩ := h'
      cases z
      exact absurd g1 (hK _ _ h1 _)
    · obtain ⟨a', C, fn, dx, fs, z, g0, g1, g2⟩ := h'
      cases z
      rw [h1] at g1
      cases g1
    · cases h'
      rw [hB] at h1
      cases h1
  · intro es xs h h'
    simp only [Reps] at h
    subst h
    cases es with
    | nil => rfl
    | cons d ds => simp only [Reps] at h'; obtain ⟨_, _, z, _⟩ := h'; cases z
  · intro d ds i1 i2 es xs h h'
    simp only [Reps] at h
    obtain ⟨x, r, rfl, h1, h2⟩ := h
    cases es with
    | nil => simp only [Reps] at h'; cases h'
    | cons e es =>
      simp only [Reps] at h'
      obtain ⟨x', r', z, g1, g2⟩ := h'
      cases z
      rw [i1 _ _ h1 g1, i2 _ _ h2 g2]
end
section
variable {X : Cx} {cs : CT} {pins : List (Addr × Obj)} {σ : L2.St} {H : Hp} {s : Shared} {ap : Addr} {B : Hp} {p : Pt}
theorem tup_cls (I : Inv X pins σ H s) {a : Addr} {xs : List V} (h : SqT X.K H a xs) : ∃ o, s.heap.get? a = some o ∧ o.cls = .type "tuple" := by
  obtain ⟨its, r, ⟨o, h1, h2, _⟩, _⟩ := I.tuple h
  exact ⟨o, h1, h2⟩
theorem obj_cls (I : Inv X pins σ H s) {a : Addr} {xs ys : List V} (h : H a = some (.lst xs)) : ¬ SqT X.K H a ys := fun z => by
  obtain ⟨o, h1, h2⟩ := tup_cls I z
  obtain ⟨_, its, n, _, h3⟩ := (show ObjOk X.prog X.w H s.heap a (.lst xs) from I.hok a _ h)
  rw [h1] at h3
  cases h3
  exact absurd (Value.type.inj h2) (by decide)
theorem ins_cls (I : Inv X pins σ H s) {a C dx : Addr} {fs : List (Str × V)} {ys : List V} (h : H a = some (.ins C dx fs)) : ¬ SqT X.K H a ys := fun z => by
  obtain ⟨o, h1, h2⟩ := tup_cls I z
  obtain ⟨mA, J, _⟩ := ins_get I.hok h
  obtain ⟨od, J, _⟩ := J.look
  have e := J.at_
  rw [h1] at e
  cases e
  have e2 := J.cls
  rw [h2] at e2
  cases e2
theorem dK_cls (I : Inv X pins σ H s) {a : Addr} {kvs : List (Key × V)} {ys : List V} (h : H a = some (.dK kvs)) : ¬ SqT X.K H a ys := fun z => by
  obtain ⟨o, h1, h2⟩ := tup_cls I z
  obtain ⟨_, _, vs, _, o', es, ep, k1, k2, _⟩ := dk_of I.hok h
  rw [h1] at k1
  cases k1
  have e2 := k2.1
  rw [h2] at e2
  exact absurd (Value.type.inj e2) (by decide)
/-- by the state: a value is one datum -/
theorem rep_one (I : Inv X pins σ H s) (hinj : ∀ c c' C fn fn', cs c = some (C, fn) → cs c' = some (C, fn') → c = c') (e : Ex B H) (hp : PotAt ap H p) (hb : B ap = none) {d d' : D} {v : V} (h : Rep X.K cs ap B d v) (h' : Rep X.K cs ap B d' v) : d = d' :=
  rep_inj hinj (fun a xs ys z z' => I.tuple_inj (Evl.ex_t e z) (Evl.ex_t e z')) (fun a zs z ys y => obj_cls (ys := ys) I (e _ _ z) (Evl.ex_t e y)) (fun a C dx fs z ys y => ins_cls (ys := ys) I (e _ _ z) (Evl.ex_t e y)) (fun a kvs z ys y => dK_cls (ys := ys) I (e _ _ z) (Evl.ex_t e y)) (fun ys y => obj_cls (ys := ys) I hp (Evl.ex_t e y)) hb d d' v h h'
theorem eqV_refl (v : V) (h : flatV v = true) : eqV v v = true := by
  cases v <;> simp [flatV] at h <;> simp [eqV]
theorem flat_refl {d : D} {b : Bool} (h : flatQ d d = some b) : b = true := by
  unfold flatQ at h
  cases d <;> simp [flV, eqV] at h <;> first | exact h.symm | exact h
theorem eqL_refl {f : D → D → Option Bool} (hf : ∀ d b, f d d = some b → b = true) : ∀ {ds : List D} {b : Bool}, eqL f ds ds = some b → b = true
  | [], b, h => by cases h; rfl
  | d :: ds, b, h => by
    unfold eqL at h
    rcases z : f d d with _ | _ | _
    · rw [z] at h; cases h
    · exact absurd (hf _ _ z) (by decide)
    · rw [z] at h; exact eqL_refl hf h
theorem eqT_refl {f : D → D → Option Bool} (hf : ∀ d b, f d d = some b → b = true) : ∀ {ds : List D} {b : Bool}, eqT f ds ds = some b → b = true
  | [], b, h => by cases h; rfl
  | d :: ds, b, h => by
    unfold eqT at h
    rcases z : f d d with _ | _ | _
    · rw [z] at h; cases h
    · exact absurd (hf _ _ z) (by decide)
    · rw [z] at h; exact eqT_refl hf h
theorem deq_refl {u : Nat → List D → List D → Option Bool} (hu : ∀ c fs b, u c fs fs = some b → b = true) : ∀ n d b, deq u n d d = some b → b = true
  | 0, d, b, h => flat_refl h
  | n + 1, d, b, h => by
    unfold deq at h
    cases d with
    | lst ds => dsimp only at h; rw [if_pos rfl] at h; exact eqL_refl (deq_refl hu n) h
    | tup ds => exact eqT_refl (deq_refl hu n) h
    | ins c ds => dsimp only at h; rw [if_pos rfl] at h; exact hu _ _ _ h
    | _ => exact flat_refl h
/-- behind a comparison: more may be known -/
def Aft (X : Cx) (pins : List (Addr × Obj)) (σ : L2.St) (ap : Addr) (B H : Hp) (p : Pt) (s' : Shared) : Prop := ∃ B' H', Inv X pins σ H' s' ∧ Nxt ap B H B' H' ∧ PotAt ap H' p
theorem rep_flat {d : D} {v w : V} (h : flV d = some w) (r : Rep X.K cs ap B d v) : v = w ∧ flatV v = true := by
  cases d <;> simp only [flV] at h <;> first | (cases h; done) | (cases h; simp only [Rep] at r; subst r; exact ⟨rfl, rfl⟩)
/-- u == v by the model, behind the data -/
def EqS (X : Cx) (cs : CT) (n : Nat) (f : D → D → Option Bool) : Prop :=
  ∀ (A : Around) (pins : List (Addr × Obj)) (s : Shared) (σ : L2.St) (H B : Hp) (ap : Addr) (p : Pt) (x y : D) (v w : V) (v' w' : Value) (b : Bool), Sub X n A → Inv X pins σ H s → Ex B H → PotAt ap H p → B ap = none → Rep X.K cs ap B x v → Rep X.K cs ap B y w → L2.RelV v v' → L2.RelV w w' → f x y = some b →
    wpAny (model X.prog X.w) A (eqBool v' w') (fun r s' => r = b ∧ Aft X pins σ ap B H p s') X.xe s
/-- v == u, v != u as an expression -/
def RcS (X : Cx) (cs : CT) (n : Nat) (f : D → D → Option Bool) : Prop :=
  ∀ (ne : Bool) (A : Around) (pins : List (Addr × Obj)) (s : Shared) (σ : L2.St) (H B : Hp) (ap : Addr) (p : Pt) (x y : D) (v w : V) (v' w' : Value) (b : Bool), Sub X n A → Inv X pins σ H s → Ex B H → PotAt ap H p → B ap = none → Rep X.K cs ap B x v → Rep X.K cs ap B y w → L2.RelV v v' → L2.RelV w w' → f x y = some b →
    wpAny (model X.prog X.w) A (richCompare (DQ.opC ne) v' w') (fun r s' => r = .bool (b != ne) ∧ Aft X pins σ ap B H p s') X.xe s
theorem eqS_flat : EqS X cs 0 flatQ := by
  intro A pins s σ H B ap p x y v w v' w' b sb I e hp hb rx ry rv rw' h
  unfold flatQ at h
  cases hx : flV x with
  | none => rw [hx] at h; cases h
  | some v1 =>
    cases hy : flV y with
    | none => rw [hx, hy] at h; cases h
    | some w1 =>
      rw [hx, hy] at h
      cases h
      obtain ⟨rfl, f1⟩ := rep_flat hx rx
      obtain ⟨rfl, f2⟩ := rep_flat hy ry
      exact eqAt_V (A := A) (s := s) rv rw' f1 f2 X.prog X.w X.xe _ ⟨rfl, B, H, I, Nxt.refl e, hp⟩
/-- one turn in a list's or a tuple's comparison -/
theorem eq_turn {n : Nat} {f : D → D → Option Bool} (h : EqS X cs n f) {A : Around} (sb : Sub X (n + 1) A) (g : (D → D → Option Bool) → List D → List D → Option Bool) (hg : ∀ x xs y ys, g f (x :: xs) (y :: ys) = match f x y with | some true => g f xs ys | r => r)
    {xs ys : List D} {vs ws : List V} {its its2 : List Value} (hp : PotAt ap H p) (hb : B ap = none) (r1 : Reps X.K cs ap B xs vs) (r2 : Reps X.K cs ap B ys ws) (r : Vals vs its) (r' : Vals ws its2) {b : Bool}
    (i : Nat) (h1 : i < its.toArray.size) (h2 : i < its2.toArray.size) (s' : Shared) (l : Aft X pins σ ap B H p s' ∧ g f (xs.drop i) (ys.drop i) = some b) :
    wpAny (model X.prog X.w) A.in1 (eqBool its.toArray[i] its2.toArray[i]) (fun r s2 => if r = true then Aft X pins σ ap B H p s2 ∧ g f (xs.drop (i + 1)) (ys.drop (i + 1)) = some b else Aft X pins σ ap B H p s2 ∧ b = false) X.xe s' := by
  obtain ⟨⟨B1, H1, I1, n1, hp1⟩, hq⟩ := l
  have g1 : its[i]? = some its.toArray[i] := by
    have h1' : i < its.length := by simpa using h1
    rw [List.getElem?_eq_getElem h1'] <;> simp
  have g2 : its2[i]? = some its2.toArray[i] := by
    have h2' : i < its2.length := by simpa using h2
    rw [List.getElem?_eq_getElem h2'] <;> simp
  have k1 : i < vs.length := by rw [r.length]; simpa using h1
  have k2 : i < ws.length := by rw [r'.length]; simpa using h2
  have j1 : i < xs.length := by rw [← r1.length]; exact k1
  have j2 : i < ys.length := by rw [← r2.length]; exact k2
  obtain ⟨u, hu, ru⟩ := r.get (List.getElem?_eq_getElem k1)
  obtain ⟨v, hv, rv⟩ := r'.get (List.getElem?_eq_getElem k2)
  rw [g1] at hu
  rw [g2] at hv
  rw [Option.some.inj hu, Option.some.inj hv]
  obtain ⟨x, hx, rx⟩ := r1.get (List.getElem?_eq_getElem j1)
  obtain ⟨y, hy, ry⟩ := r2.get (List.getElem?_eq_getElem j2)
  rw [List.getElem?_eq_getElem k1] at hx
  rw [List.getElem?_eq_getElem k2] at hy
  rw [Option.some.inj hx] at ru
  rw [Option.some.inj hy] at rv
  rw [List.drop_eq_getElem_cons j1, List.drop_eq_getElem_cons j2, hg] at hq
  have hbB : B1 ap = none := n1.nw _ (by rw [show H ap = _ from hp]; exact (fun z => nomatch z)) hb
  rcases z : f xs[i] ys[i] with _ | b'
  · rw [z] at hq; cases hq
  · rw [z] at hq
    refine wpAny_mono (h A.in1 pins s' σ H1 B1 ap p _ _ _ _ _ _ b' sb.in1 I1 n1.bh hp1 hbB (rx.mono n1.bb) (ry.mono n1.bb) ru rv z) (fun r s2 q => ?_) fun _ _ x => x
    obtain ⟨rfl, B2, H2, I2, n2, hp2⟩ := q
    have a2 : Aft X pins σ ap B H p s2 := ⟨B2, H2, I2, n1.trans n2, hp2⟩
    cases r with
    | true => rw [if_pos rfl]; exact ⟨a2, hq⟩
    | false => rw [if_neg (by decide)]; cases hq; exact ⟨a2, rfl⟩
theorem eqL_end {f : D → D → Option Bool} : ∀ {xs ys : List D} {b : Bool}, eqL f xs ys = some b → xs = [] ∨ ys = [] → b = true
  | [], [], b, h, _ => by cases h; rfl
  | [], y :: ys, b, h, _ => by cases h
  | x :: xs, [], b, h, _ => by cases h
  | x :: xs, y :: ys, b, h, z => by rcases z with z | z <;> cases z
theorem eqT_end {f : D → D → Option Bool} : ∀ {xs ys : List D} {b : Bool}, eqT f xs ys = some b → xs = [] ∨ ys = [] → b = (xs.length == ys.length)
  | [], [], b, h, _ => by cases h; rfl
  | [], y :: ys, b, h, _ => by cases h; rfl
  | x :: xs, [], b, h, _ => by cases h; rfl
  | x :: xs, y :: ys, b, h, z => by rcases z with z | z <;> cases z
theorem bne_flip (b : Bool) : (true != b) = !b := by cases b <;> rfl
theorem bne_f (b : Bool) : (false != b) = b := by cases b <;> rfl
/-- == of list, tuple, instance -/
theorem rcS_step {n k : Nat} {f : D → D → Option Bool} {u : Nat → List D → List D → Option Bool} (h : EqS X cs n f) (U : UEq X cs k u) (hk : k ≤ n + 1) {ne : Bool} {A : Around} {pins : List (Addr × Obj)} {s : Shared} {σ : L2.St} {H B : Hp} {ap : Addr} {p : Pt} {x y : D} {v w : V} {v' w' : Value} {b : Bool} (sb : Sub X (n + 1) A) (I : Inv X pins σ H s) (e : Ex B H) (hp : PotAt ap H p) (hb : B ap = none)
    (rx : Rep X.K cs ap B x v) (ry : Rep X.K cs ap B y w) (rv : L2.RelV v v') (rw' : L2.RelV w w')
    (hq : (∃ xs ys, x = .lst xs ∧ y = .lst ys ∧ (if xs.length = ys.length then eqL f xs ys else some false) = some b) ∨ (∃ xs ys, x = .tup xs ∧ y = .tup ys ∧ eqT f xs ys = some b) ∨ ∃ c fs gs, x = .ins c fs ∧ y = .ins c gs ∧ u c fs gs = some b ∧ ne = false) :
    wpAny (model X.prog X.w) A (richCompare (DQ.opC ne) v' w') (fun r s' => r = .bool (b != ne) ∧ Aft X pins σ ap B H p s') X.xe s := by
  have a0 : Aft X pins σ ap B H p s := ⟨B, H, I, Nxt.refl e, hp⟩
  rcases hq with ⟨xs, ys, rfl, rfl, hq⟩ | ⟨xs, ys, rfl, rfl, hq⟩ | ⟨c, fs, gs, rfl, rfl, hq, rfl⟩
  · simp only [Rep] at rx ry
    obtain ⟨l, vs, rfl, h1, r1⟩ := rx
    obtain ⟨l', ws, rfl, h2, r2⟩ := ry
    cases rv
    cases rw'
    have two : ∀ s', Aft X pins σ ap B H p s' → ∃ its its2 : List Value, Vals vs its ∧ Vals ws its2 ∧ (∃ k, s'.heap.get? l = some { cls := .type "list", data := .seq its.toArray k }) ∧ (∃ k, s'.heap.get? l' = some { cls := .type "list", data := .seq its2.toArray k }) := fun s' ⟨B1, H1, I1, n1, hp1⟩ => by
      obtain ⟨z, its, k, r, e1⟩ := I1.hok l _ (n1.bh _ _ (n1.bb _ _ h1))
      obtain ⟨z2, its2, k2, r2, e2⟩ := I1.hok l' _ (n1.bh _ _ (n1.bb _ _ h2))
      exact ⟨its, its2, r, r2, ⟨k, e1⟩, ⟨k2, e2⟩⟩
    by_cases hz : xs.length = ys.length
    · rw [if_pos hz] at hq
      refine DQ.rcL ne (N := vs.length) sb.room.units0 (fun i s' => Aft X pins σ ap B H p s' ∧ eqL f (xs.drop i) (ys.drop i) = some b) (fun _ s' => Aft X pins σ ap B H p s' ∧ b = false) (fun i s' q => ?_) (fun i s' q => ?_) (fun s' q => ?_) ⟨a0, hq⟩
      · obtain ⟨its, its2, r, r', k1, k2⟩ := two s' q.1
        exact ⟨its.toArray, its2.toArray, ⟨k1, k2, by rw [List.size_toArray, ← r.length], by rw [List.size_toArray, ← r'.length, r2.length, r1.length, hz]⟩, fun g1 g2 => eq_turn h sb eqL (fun _ _ _ _ => rfl) hp hb r1 r2 r r' i g1 g2 s' q⟩
      · obtain ⟨its, its2, r, r', k1, k2⟩ := two s' q.1
        exact ⟨⟨its.toArray, its2.toArray, k1, k2, by rw [List.size_toArray, ← r.length], by rw [List.size_toArray, ← r'.length, r2.length, r1.length, hz]⟩, by rw [q.2, bne_f], q.1⟩
      · have : b = true := eqL_end q.2 (.inl (List.drop_eq_nil_of_le (by rw [r1.length]; exact Nat.le_refl _)))
        exact ⟨by rw [this, bne_flip], q.1⟩
    · rw [if_neg hz] at hq
      cases hq
      obtain ⟨its, its2, r, r', ⟨k1, e1⟩, ⟨k2, e2⟩⟩ := two s a0
      exact DQ.rcU ne sb.room.units0 e1 e2 (by rw [List.size_toArray, List.size_toArray, ← r.length, ← r'.length, r2.length, r1.length]; exact hz) ⟨by rw [bne_f], a0⟩
  · simp only [Rep] at rx ry
    obtain ⟨l, vs, rfl, h1, r1⟩ := rx
    obtain ⟨l', ws, rfl, h2, r2⟩ := ry
    cases rv
    cases rw'
    obtain ⟨its, r, e1, z⟩ := I.tuple (Evl.ex_t e h1)
    obtain ⟨its2, r', e2, z2⟩ := I.tuple (Evl.ex_t e h2)
    refine DQ.rcT ne sb.room.units0 (fun i s' => Aft X pins σ ap B H p s' ∧ eqT f (xs.drop i) (ys.drop i) = some b) (fun _ s' => Aft X pins σ ap B H p s' ∧ b = false) e1 e2 (fun i g1 g2 s' q => eq_turn h sb eqT (fun _ _ _ _ => rfl) hp hb r1 r2 r r' i g1 g2 s' q) (fun i s' q => ⟨by rw [q.2, bne_f], q.1⟩) (fun s' q => ⟨?_, q.1⟩) ⟨a0, hq⟩
    have l1 : its.length = xs.length := by rw [← r.length, r1.length]
    have l2 : its2.length = ys.length := by rw [← r'.length, r2.length]
    have q2 := q.2
    rw [List.size_toArray, List.size_toArray, l1, l2] at q2
    have hb2 := eqT_end q2 (by
      rcases Nat.le_total xs.length ys.length with g | g
      · rw [Nat.min_eq_left g]; exact .inl (List.drop_eq_nil_of_le (Nat.le_refl _))
      · rw [Nat.min_eq_right g]; exact .inr (List.drop_eq_nil_of_le (Nat.le_refl _)))
    rw [List.length_drop, List.length_drop] at hb2
    rw [List.size_toArray, List.size_toArray, l1, l2, hb2]
    congr 2
    rw [Bool.eq_iff_iff, beq_iff_eq, beq_iff_eq]
    omega
  · obtain ⟨C, fn, f', fd, ps, fm, T, hs, hf, F, hbd, hfm⟩ := U.of c fs gs b hq
    obtain ⟨a', dx, fs', rfl, g1, g2, g3⟩ := rep_ins T rx
    obtain ⟨b', dy, gs', rfl, k1, k2, k3⟩ := rep_ins T ry
    cases rv
    cases rw'
    obtain ⟨mA, J, _⟩ := ins_get I.hok (e _ _ g1)
    obtain ⟨mB, J', _⟩ := ins_get I.hok (e _ _ k1)
    obtain ⟨od, J, _⟩ := J.look
    obtain ⟨od', J', _⟩ := J'.look
    obtain ⟨m, hF⟩ := I.fr
    refine PySem.W.cmp_K (op := .Eq) (tb := .ref C) sb.room.units0 hF I.ok.mod.kin J J'.type (by simp [PySem.W.notFirst]) hs hf ?_
    have hsp : spD X.K cs 2 fm [.ref a', .ref b'] H (fun v H' => v = .bl b ∧ ∃ B', Nxt ap B H B' H' ∧ PotAt ap H' p) E0 := ⟨ap, B, _, p, _, p, rfl, e, hp, hb, reps_cons rx (reps_cons ry reps_nil), hfm p, fun B' H' v n hp' r' => by
      simp only [Rep] at r'
      exact ⟨r', B', n, hp'⟩⟩
    have e0 : Env0 X.prog X.w X.K X.mg X.base A X.stack s H := by
      have z := I.env0
      exact ⟨by rw [sb.fr]; exact z.frames, z.mod, z.bs, z.bsz, z.funs, z.frf, z.hok, z.bare⟩
    have hl := F.len _ _ _ _ hsp
    have r2 : Vals [V.ref a', V.ref b'] [Value.ref a', Value.ref b'] := .cons rfl (.cons rfl .nil)
    refine wpAny_call (codeAny_mono (F.run A X.stack s H ⟨[.ref a', .ref b'], []⟩ [.ref a', .ref b'] [.ref a', .ref b'] _ E0 (sb.room.mono hk) (fun z => nomatch z) e0 (by
      have := hbd s [.ref a', .ref b'] I.kIn (by simpa using hl)
      simpa using this) r2 hsp) fun r s' hq => ?_)
    cases r with
    | error e => exact hq.elim
    | ok fl =>
      cases fl with
      | ret w =>
        obtain ⟨z, H', I', rz, ez, B', n', hp'⟩ := I.after hq
        subst ez
        cases rz
        exact ⟨by rw [show (b != false) = b by cases b <;> rfl], B', H', I', n', hp'⟩
      | next => exact hq.elim
      | brk => exact hq.elim
      | cont => exact hq.elim
theorem EqS.mono {n m : Nat} {f : D → D → Option Bool} (h : EqS X cs n f) (hn : n ≤ m) : EqS X cs m f := fun A pins s σ H B ap p x y v w v' w' b sb => h A pins s σ H B ap p x y v w v' w' b (sb.mono hn)
theorem deq_cases {u : Nat → List D → List D → Option Bool} {n : Nat} {x y : D} {b : Bool} (h : deq u (n + 1) x y = some b) :
    flatQ x y = some b ∨ (∃ xs ys, x = .lst xs ∧ y = .lst ys ∧ (if xs.length = ys.length then eqL (deq u n) xs ys else some false) = some b) ∨ (∃ xs ys, x = .tup xs ∧ y = .tup ys ∧ eqT (deq u n) xs ys = some b) ∨ ∃ c fs gs, x = .ins c fs ∧ y = .ins c gs ∧ u c fs gs = some b := by
  unfold deq at h
  split at h
  · exact .inr (.inl ⟨_, _, rfl, rfl, h⟩)
  · exact .inr (.inr (.inl ⟨_, _, rfl, rfl, h⟩))
  · split at h
    · rename_i hc
      subst hc
      exact .inr (.inr (.inr ⟨_, _, _, rfl, rfl, h⟩))
    · cases h
  · exact .inl h
theorem rep_ref {x y : D} {v w : V} {v' w' : Value} (h : (∃ xs ys, x = .lst xs ∧ y = .lst ys) ∨ (∃ xs ys, x = .tup xs ∧ y = .tup ys) ∨ ∃ c c' fs gs, x = .ins c fs ∧ y = .ins c' gs) (rx : Rep X.K cs ap B x v) (ry : Rep X.K cs ap B y w) : ∃ a b, v = .ref a ∧ w = .ref b := by
  rcases h with ⟨xs, ys, rfl, rfl⟩ | ⟨xs, ys, rfl, rfl⟩ | ⟨c, c', fs, gs, rfl, rfl⟩
  · simp only [Rep] at rx ry
    obtain ⟨a, _, h1, _⟩ := rx
    obtain ⟨b, _, h2, _⟩ := ry
    exact ⟨a, b, h1, h2⟩
  · simp only [Rep] at rx ry
    obtain ⟨a, _, h1, _⟩ := rx
    obtain ⟨b, _, h2, _⟩ := ry
    exact ⟨a, b, h1, h2⟩
  · simp only [Rep] at rx ry
    obtain ⟨a, _, _, _, _, h1, _⟩ := rx
    obtain ⟨b, _, _, _, _, h2, _⟩ := ry
    exact ⟨a, b, h1, h2⟩
theorem eqS_deq {k : Nat} {u : Nat → List D → List D → Option Bool} (U : UEq X cs k u) : ∀ n, EqS X cs (k + n) (deq u n)
  | 0 => EqS.mono eqS_flat (Nat.zero_le _)
  | n + 1 => by
    intro A pins s σ H B ap p x y v w v' w' b sb I e hp hb rx ry rv rw' h
    have key : ∀ (hr : ∃ a b, v = .ref a ∧ w = .ref b) (h2 : (∃ xs ys, x = .lst xs ∧ y = .lst ys ∧ (if xs.length = ys.length then eqL (deq u n) xs ys else some false) = some b) ∨ (∃ xs ys, x = .tup xs ∧ y = .tup ys ∧ eqT (deq u n) xs ys = some b) ∨ ∃ c fs gs, x = .ins c fs ∧ y = .ins c gs ∧ u c fs gs = some b),
        wpAny (model X.prog X.w) A (eqBool v' w') (fun r s' => r = b ∧ Aft X pins σ ap B H p s') X.xe s := by
      intro hr h2
      obtain ⟨a1, b1, rfl, rfl⟩ := hr
      cases rv
      cases rw'
      by_cases hab : a1 = b1
      · subst hab
        have hxy := rep_one I U.inj e hp hb rx ry
        subst hxy
        have hbt := deq_refl U.rf _ _ _ h
        subst hbt
        exact SeqAt.EqAt.same (A := A) (s := s) (.ref a1) X.prog X.w X.xe _ ⟨rfl, B, H, I, Nxt.refl e, hp⟩
      · refine GQ.eqBool_refG hab (wpAny_mono (rcS_step (ne := false) (n := k + n) (eqS_deq U n) U (by omega) sb I e hp hb rx ry rfl rfl (by
          rcases h2 with h2 | h2 | ⟨c, fs, gs, h3, h4, h5⟩
          · exact .inl h2
          · exact .inr (.inl h2)
          · exact .inr (.inr ⟨c, fs, gs, h3, h4, h5, rfl⟩))) (fun r s' q => ?_) fun _ _ x => x)
        exact ⟨b, by rw [q.1, show (b != false) = b by cases b <;> rfl], rfl, q.2⟩
    rcases deq_cases h with h1 | h1 | h1 | h1
    · exact EqS.mono eqS_flat (Nat.zero_le _) A pins s σ H B ap p x y v w v' w' b sb I e hp hb rx ry rv rw' h1
    · obtain ⟨xs, ys, hx, hy, _⟩ := id h1
      exact key (rep_ref (v' := v') (w' := w') (.inl ⟨xs, ys, hx, hy⟩) rx ry) (.inl h1)
    · obtain ⟨xs, ys, hx, hy, _⟩ := id h1
      exact key (rep_ref (v' := v') (w' := w') (.inr (.inl ⟨xs, ys, hx, hy⟩)) rx ry) (.inr (.inl h1))
    · obtain ⟨c, fs, gs, hx, hy, _⟩ := id h1
      exact key (rep_ref (v' := v') (w' := w') (.inr (.inr ⟨c, c, fs, gs, hx, hy⟩)) rx ry) (.inr (.inr h1))
/-- the top of x == y, x != y -/
def isIns : D → Bool
  | .ins _ _ => true
  | _ => false
def dEqO (u : Nat → List D → List D → Option Bool) (n : Nat) (ne : Bool) : D → D → Mo D := fun x y => if (isIns x && ne) = true then failM else match x, y with
    | .lst _, .lst _ => match deq u (n + 1) x y with
      | some b => retM (.bl (b != ne))
      | none => failM
    | .tup _, .tup _ => match deq u (n + 1) x y with
      | some b => retM (.bl (b != ne))
      | none => failM
    | .ins _ _, .ins _ _ => match deq u (n + 1) x y with
      | some b => retM (.bl (b != ne))
      | none => failM
    | _, _ => failM
def dEqF (ne : Bool) : D → D → Mo D := fun x y => match flV x with
  | some v => match flV y with
    | some w => if scal v w = true then retM (.bl (decide (v = w) != ne)) else failM
    | none => failM
  | none => failM
theorem dOr_cases {f g : D → D → Mo D} {x y : D} {p : Pt} {r : D × Pt} (h : dOr f g x y p = some r) : f x y p = some r ∨ g x y p = some r := by
  unfold dOr at h
  rcases z : f x y p with _ | w
  · rw [z] at h; exact .inr h
  · rw [z] at h; exact .inl h
def dEqR (u : Nat → List D → List D → Option Bool) (n : Nat) (ne : Bool) : D → D → Mo D := dOr (dEqF ne) (dEqO u n ne)
def rEqR (X : Cx) (cs : CT) (u : Nat → List D → List D → Option Bool) (n : Nat) (ne : Bool) : R2 := fun v w H Q => (scal v w = true ∧ Q (.bl (decide (v = w) != ne)) H) ∨
  ∃ ap B p x y b, Ex B H ∧ PotAt ap H p ∧ B ap = none ∧ Rep X.K cs ap B x v ∧ Rep X.K cs ap B y w ∧ ((∃ xs ys, x = .lst xs ∧ y = .lst ys) ∨ (∃ xs ys, x = .tup xs ∧ y = .tup ys) ∨ ∃ c c' fs gs, x = .ins c fs ∧ y = .ins c' gs ∧ ne = false) ∧ deq u (n + 1) x y = some b ∧
    ∀ B' H', Nxt ap B H B' H' → PotAt ap H' p → Q (.bl (b != ne)) H'
theorem opR_eqR {k : Nat} {u : Nat → List D → List D → Option Bool} (n : Nat) (U : UEq X cs k u) (hr : Room (k + n + 1) X.A) (ne : Bool) : OpR X (compareOp (DQ.opC ne)) (rEqR X cs u n ne) := by
  intro pins s σ H v w v' w' Q I rv rw' h
  rcases h with ⟨h, q⟩ | ⟨ap, B, p, x, y, b, e, hp, hb, rx, ry, hs, hq, q⟩
  · cases ne with
    | false => exact op_eq pins s σ H v w v' w' Q I rv rw' ⟨h, by rw [show (decide (v = w) != false) = decide (v = w) by cases decide (v = w) <;> rfl] at q; exact q⟩
    | true => exact op_ne pins s σ H v w v' w' Q I rv rw' ⟨h, by rw [show (decide (v = w) != true) = !decide (v = w) by cases decide (v = w) <;> rfl] at q; exact q⟩
  · have key : wpAny (model X.prog X.w) X.A (richCompare (DQ.opC ne) v' w') (fun r s' => r = .bool (b != ne) ∧ Aft X pins σ ap B H p s') X.xe s := by
      refine rcS_step (n := k + n) (eqS_deq U n) U (by omega) ⟨hr, rfl⟩ I e hp hb rx ry rv rw' ?_
      rcases hs with ⟨xs, ys, rfl, rfl⟩ | ⟨xs, ys, rfl, rfl⟩ | ⟨c, c', fs, gs, rfl, rfl, hne⟩
      · exact .inl ⟨xs, ys, rfl, rfl, hq⟩
      · exact .inr (.inl ⟨xs, ys, rfl, rfl, hq⟩)
      · unfold deq at hq
        dsimp only at hq
        split at hq
        · rename_i hc
          subst hc
          exact .inr (.inr ⟨c, fs, gs, rfl, rfl, hq, hne⟩)
        · cases hq
    have fin : wpAny (model X.prog X.w) X.A (richCompare (DQ.opC ne) v' w') (EP X pins σ Q) X.xe s := by
      refine wpAny_mono key (fun r s' z => ?_) fun _ _ x => x
      obtain ⟨rfl, B', H', I', n', hp'⟩ := z
      exact ⟨.bl (b != ne), H', I', rfl, q B' H' n' hp'⟩
    cases ne <;> exact fin
theorem opD_eqR {k : Nat} {u : Nat → List D → List D → Option Bool} (n : Nat) (U : UEq X cs k u) (hr : Room (k + n + 1) X.A) (ne : Bool) : OpD cs X (compareOp (DQ.opC ne)) (dEqR u n ne) := by
  refine ⟨_, opR_eqR n U hr ne, fun ap B H p x y v w Q d p' e hp hb rx ry hm q => ?_⟩
  have fin : ∀ b, deq u (n + 1) x y = some b → ((∃ xs ys, x = .lst xs ∧ y = .lst ys) ∨ (∃ xs ys, x = .tup xs ∧ y = .tup ys) ∨ ∃ c c' fs gs, x = .ins c fs ∧ y = .ins c' gs ∧ ne = false) → (∀ B' H', Nxt ap B H B' H' → PotAt ap H' p → Q (.bl (b != ne)) H') → rEqR X cs u n ne v w H Q :=
    fun b h1 h2 h3 => .inr ⟨ap, B, p, x, y, b, e, hp, hb, rx, ry, h2, h1, h3⟩
  rcases dOr_cases hm with z | z
  · unfold dEqF at z
    rcases hv : flV x with _ | v1
    · rw [hv] at z; cases z
    · rcases hw : flV y with _ | w1
      · rw [hv, hw] at z; cases z
      · rw [hv, hw] at z
        dsimp only at z
        split at z
        · rename_i hs
          cases z
          obtain ⟨rfl, _⟩ := rep_flat hv rx
          obtain ⟨rfl, _⟩ := rep_flat hw ry
          exact .inl ⟨hs, q B H _ (Nxt.refl e) hp (by simp only [Rep])⟩
        · cases z
  · unfold dEqO at z
    split at z
    · cases z
    · rename_i hne
      split at z
      · rename_i a b
        rcases hb' : deq u (n + 1) (.lst a) (.lst b) with _ | r
        · rw [hb'] at z; cases z
        · rw [hb'] at z
          cases z
          exact fin r hb' (.inl ⟨_, _, rfl, rfl⟩) fun B' H' n' hp' => q B' H' _ n' hp' (by simp only [Rep])
      · rename_i a b
        rcases hb' : deq u (n + 1) (.tup a) (.tup b) with _ | r
        · rw [hb'] at z; cases z
        · rw [hb'] at z
          cases z
          exact fin r hb' (.inr (.inl ⟨_, _, rfl, rfl⟩)) fun B' H' n' hp' => q B' H' _ n' hp' (by simp only [Rep])
      · rename_i c a c' b
        rcases hb' : deq u (n + 1) (.ins c a) (.ins c' b) with _ | r
        · rw [hb'] at z; cases z
        · rw [hb'] at z
          cases z
          refine fin r hb' (.inr (.inr ⟨_, _, _, _, rfl, rfl, ?_⟩)) fun B' H' n' hp' => q B' H' _ n' hp' (by simp only [Rep])
          cases ne with
          | false => rfl
          | true => exact absurd rfl hne
      · cases z
end
end DL
end

section
set_option Elab.async false
set_option linter.all false
set_option maxRecDepth 100000
set_option maxHeartbeats 4000000
/-! != between two instances whose class has an own == and no own !=. -/
namespace PySem.W
open PySem PySem.Calls PyProof.Rows Builtin
section
variable {prog : Program} {w : World} {A : Around} {E : Value → Shared → Prop} {s : Shared} {K : Frag} {x C L f : Addr} {h₀ : Heap} {m : Str → Option Value} {ox : Obj} {od : Option Obj} {b tb : Value}
theorem ne_bind (self : Value) : bindSpecial (.builtin "object.__ne__") self = pure (.builtin "object.__ne__", [self]) := PySem.F.cmp_object.ne.bind self
theorem ne_args (a b : Value) : argsOk "object.__ne__" ⟨[a, b], []⟩ := PySem.F.cmpArgs_ne a b
theorem ifBound_B {M : Model} {name i : Str} {id : String} {args : List Value} {Q : Option Value → Shared → Prop} (X : K.In s.heap) (I : InstAt s.heap x ox C od) (hs : findIn K (.ref C) name = some (some (.builtin id))) (hb : ∀ self, bindSpecial (.builtin id) self = pure (.builtin id, [self]))
    (h : wpAny M A (call (.builtin id) (.ref x :: args)) (fun v => Q (some v)) E s) : wpAny M A (callSpecialIfBound? (.ref x) name args) Q E s := by
  simp only [callSpecialIfBound?, bindSpecialIfBound?]
  refine wpAny_holding (wpAny_bind (wpAny_bind (wpAny_bind (I.type.here ((looks_findIn X hs).here ?_)))))
  refine wpAny_bind (wpAny_askSetting (wpAny_ite ?_))
  have fin : wpAny M A (call (.builtin id) ([.ref x] ++ args) >>= fun v => pure (some v)) Q E s := wpAny_bind (wpAny_mono h (fun v s' h' => wpAny_pure h') fun _ _ h' => h')
  rw [hb]
  split
  · exact wpAny_bind (wpAny_pure (wpAny_pure (by exact fin)))
  · exact wpAny_tryCatch (wpAny_bind (wpAny_pure (wpAny_pure (by exact fin))))
theorem objNe_K (X : K.In s.heap) (I : InstAt s.heap x ox C od) (he : findIn K (.ref C) "__eq__" = some (some (.ref f))) (hf : isFn K (.ref f) = true) (hu : A.units < cLine) {Q : Fin → Shared → Prop}
    (hcall : wpAny (model prog w) A (call (.ref f) [.ref x, b]) (fun v s' => ∃ c, v = .bool c ∧ Q (.done (.ret (.bool (!c)))) s') E s) :
    wpAny (model prog w) A (Builtin.«object.__ne__» ⟨[.ref x, b], []⟩) Q E s := by
  unfold Builtin.«object.__ne__»
  repeat (first
    | with_reducible refine wpAny_cRoomFor hu ?_
    | (refine wpAny_bind (m := callSpecialIfBound? (.ref x) (Str.ofString "__eq__") [b])
        (ifBound_K X I he hf (wpAny_mono hcall (fun r s' hr => by
          obtain ⟨c, rfl, hq⟩ := hr
          repeat (first | exact hq | exact wpAny_pure hq | exact wpAny_truthy_bool hq | (refine wpAny_bind (m := truthy (.bool _)) (wpAny_truthy_bool ?_)) | wp_step)) fun _ _ e => e)))
    | wp_step)
theorem cmpNe_K {Q : Value → Shared → Prop} (hu : A.units + 1 < cLine) (F : Fr h₀ L s.heap m) (X₀ : K.In h₀) (I : InstAt s.heap x ox C od) (hb : Looks (model prog w) s.heap (typeOf b) tb) (hn : notFirst K C tb = true)
    (hs : findIn K (.ref C) "__ne__" = some (some (.builtin "object.__ne__"))) (hm : mroIn K C (.type "object") = some true)
    (he : findIn K (.ref C) "__eq__" = some (some (.ref f))) (hf : isFn K (.ref f) = true)
    (h : wpAny (model prog w) A.in1 (call (.ref f) [.ref x, b]) (fun v s' => ∃ c, v = .bool c ∧ Q (.bool (!c)) s') E s) : wpAny (model prog w) A (richCompare .NotEq (.ref x) b) Q E s := by
  have X := X₀.keeps F.keep
  have one : wpAny (model prog w) A (tryCompare (.ref x) "__ne__" b) (fun r s' => ∃ v, r = some v ∧ Q v s') E s := by
    unfold tryCompare
    have inst : Looks (model prog w) s.heap (isInstance (.ref x) (.type "object")) true := I.type.andThen (looks_mroIn X hm)
    refine wpAny_bind (ifBound_B (name := "__ne__") (i := "__ne__") X I hs ne_bind (wpAny_call (codeAny_call_builtin PySem.F.cmp_object.ne.plain PySem.F.cmpEntry_ne
      (check_slot PySem.F.cmpKind_ne PySem.F.cmpSplit_ne inst (ne_args _ _) (objNe_K (A := A.in1) X I he hf hu (wpAny_mono h (fun v s' hv => ?_) fun _ _ e => e))))))
    obtain ⟨c, rfl, hq⟩ := hv
    first | exact ⟨c, rfl, wpAny_pure ⟨_, rfl, hq⟩⟩ | exact ⟨c, rfl, wpAny_pure (wpAny_pure ⟨_, rfl, hq⟩)⟩ | exact ⟨c, rfl, ⟨_, rfl, hq⟩⟩
  unfold richCompare
  simp only [oneThing_ref]
  refine wpAny_holding (wpAny_bind (wpAny_cRoomFor (Nat.lt_of_succ_lt hu) ?_))
  rw [cmpInfo_NotEq]
  dsimp only
  refine wpAny_bind (I.type.here (wpAny_bind (hb.here ?_)))
  split
  · rename_i q
    have e : subIn K tb (.ref C) = some false := by
      rcases Bool.or_eq_true_iff.mp hn with e | e
      · rw [beq_iff_eq.mp e] at q; simp at q
      · exact beq_iff_eq.mp e
    refine wpAny_bind ((looks_subIn X e).here ?_)
    simp only [Bool.false_eq_true, if_false]
    refine wpAny_bind (wpAny_mono one (fun r s' z => ?_) fun _ _ e => e)
    obtain ⟨v, rfl, hq⟩ := z
    exact wpAny_pure hq
  · refine wpAny_bind (wpAny_pure ?_)
    simp only [Bool.false_eq_true, if_false]
    refine wpAny_bind (wpAny_mono one (fun r s' z => ?_) fun _ _ e => e)
    obtain ⟨v, rfl, hq⟩ := z
    exact wpAny_pure hq
end
end PySem.W
end

section
set_option Elab.async false
set_option linter.all false
set_option maxRecDepth 100000
set_option maxHeartbeats 4000000
/-! DL: repr of data, own __repr__ among them. -/
namespace DL
open PySem PySem.Spec PyProof.Rows L2
open Evl (Ex)
open PySem.Builtin
def flT : D → Option Str
  | .non => some "None"
  | .bl b => some (if b then "True" else "False")
  | .int i => if i.natAbs.log2 < 1920 then some (toString i) else none
  | .str x => some (reprText x)
  | _ => none
def repL (f : D → Option Str) : List D → Option (List Str)
  | [] => some []
  | d :: ds => match f d with
    | some t => match repL f ds with
      | some ts => some (t :: ts)
      | none => none
    | none => none
/-- the text of a datum; u: of an instance -/
def repT (u : Nat → List D → Option Str) : Nat → D → Option Str
  | 0, d => flT d
  | n + 1, d => match d with
    | .lst ds => match repL (repT u n) ds with
      | some ts => some (listText ts)
      | none => none
    | .tup ds => match repL (repT u n) ds with
      | some ts => some (tupleText ts)
      | none => none
    | .ins c fs => u c fs
    | .ed => some (dictText [])
    | d => flT d
theorem repL_get {f : D → Option Str} : ∀ {ds : List D} {ts : List Str} {i : Nat} {d : D}, repL f ds = some ts → ds[i]? = some d → ∃ t, f d = some t ∧ ts[i]? = some t
  | [], _, _, _, _, h => by simp at h
  | d :: ds, ts, i, d', h, hi => by
    unfold repL at h
    rcases z : f d with _ | t
    · rw [z] at h; cases h
    · rw [z] at h
      rcases z2 : repL f ds with _ | ts'
      · rw [z2] at h; cases h
      · rw [z2] at h
        cases h
        cases i with
        | zero => simp at hi; subst hi; exact ⟨t, z, rfl⟩
        | succ i =>
          simp at hi
          obtain ⟨t', h1, h2⟩ := repL_get z2 hi
          exact ⟨t', h1, by simpa using h2⟩
theorem repL_len {f : D → Option Str} : ∀ {ds : List D} {ts : List Str}, repL f ds = some ts → ts.length = ds.length
  | [], _, h => by cases h; rfl
  | d :: ds, ts, h => by
    unfold repL at h
    rcases z : f d with _ | t
    · rw [z] at h; cases h
    · rw [z] at h
      rcases z2 : repL f ds with _ | ts'
      · rw [z2] at h; cases h
      · rw [z2] at h
        cases h
        rw [List.length_cons, List.length_cons, repL_len z2]
theorem size_mem {d : D} {ds : List D} (h : d ∈ ds) : sizeOf d < sizeOf (D.lst ds) ∧ sizeOf d < sizeOf (D.tup ds) := by
  have := List.sizeOf_lt_of_mem h
  constructor
  · rw [D.lst.sizeOf_spec]; omega
  · rw [D.tup.sizeOf_spec]; omega
section
variable {A : Around} {args : Args}
theorem loop_depth : (A.under (.builtin "list.__repr__.loop" args)).depth = A.depth + 1 := by
  first | rfl | simp [Around.under, Code.weight, Code.isCreation, Code.isGuard, Code.isCaller, Code.frames, Code.isFrame, guardIds]
theorem loop_frames : (A.under (.builtin "list.__repr__.loop" args)).frames = A.frames := by
  first | rfl | simp [Around.under, Code.envs, Code.isFrame, pushEnvs]
theorem loop_hd : (A.under (.builtin "list.__repr__.loop" args)).handled = A.handled := rfl
theorem tupr_depth {id : String} (h : id = "tuple.__repr__" ∨ id = "tuple.__repr__.under") : (A.under (.builtin id args)).depth = A.depth + 1 := by
  rcases h with rfl | rfl
  · first | rfl | simp [Around.under, Code.weight, Code.isCreation, Code.isGuard, Code.isCaller, Code.frames, Code.isFrame, guardIds]
  · first | rfl | simp [Around.under, Code.weight, Code.isCreation, Code.isGuard, Code.isCaller, Code.frames, Code.isFrame, guardIds]
theorem tupr_frames {id : String} (h : id = "tuple.__repr__" ∨ id = "tuple.__repr__.under") : (A.under (.builtin id args)).frames = A.frames := by
  rcases h with rfl | rfl
  · first | rfl | simp [Around.under, Code.envs, Code.isFrame, pushEnvs]
  · first | rfl | simp [Around.under, Code.envs, Code.isFrame, pushEnvs]
end
/-- the guards under way are of greater data -/
def GCl (K : PySem.W.Frag) (cs : CT) (ap : Addr) (B : Hp) (g : List Code) (d : D) : Prop := ∀ id v rest kw, Code.builtin id ⟨v :: rest, kw⟩ ∈ g → ∃ a e, v = .ref a ∧ Rep K cs ap B e (.ref a) ∧ sizeOf d < sizeOf e
theorem GCl.mono {K : PySem.W.Frag} {cs : CT} {ap : Addr} {B B' : Hp} {g : List Code} {d : D} (h : GCl K cs ap B g d) (e : Ex B B') : GCl K cs ap B' g d := fun id v rest kw hm => by
  obtain ⟨a, x, h1, h2, h3⟩ := h id v rest kw hm
  exact ⟨a, x, h1, h2.mono e, h3⟩
theorem GCl.push {K : PySem.W.Frag} {cs : CT} {ap : Addr} {B : Hp} {g : List Code} {d e : D} {a : Addr} {id : String} {rest : List Value} (h : GCl K cs ap B g e) (r : Rep K cs ap B e (.ref a)) (hs : sizeOf d < sizeOf e) : GCl K cs ap B (.builtin id ⟨.ref a :: rest, []⟩ :: g) d := fun id' v rest' kw hm => by
  rcases List.mem_cons.mp hm with z | hm
  · cases z
    exact ⟨a, e, rfl, r, hs⟩
  · obtain ⟨b, x, h1, h2, h3⟩ := h id' v rest' kw hm
    exact ⟨b, x, h1, h2, Nat.lt_trans hs h3⟩
/-- the own __repr__ of the classes -/
structure URep (X : Cx) (cs : CT) (k : Nat) (u : Nat → List D → Option Str) : Prop where
  of : ∀ c fs t, u c fs = some t → ∃ C fn f fd ps fm, ClsAt X.K cs c C fn ∧ PySem.W.findIn X.K (.ref C) "__repr__" = some (some (.ref f)) ∧ PySem.W.isFn X.K (.ref f) = true ∧ FnD false X.prog X.w X.K X.mg X.base k f fd ps (spD X.K cs 1 fm) ∧ Binds X.K fd ps [] ∧ ∀ p, fm [.ins c fs] p = some (.str t, p)
  inj : ∀ c c' C fn fn', cs c = some (C, fn) → cs c' = some (C, fn') → c = c'
theorem str_vals : ∀ {acc : List Str} {its : List Value}, Vals (acc.map V.str) its → ∃ done : List (Str × Tok), its = strValues done ∧ done.map (·.1) = acc
  | [], _, h => by cases h; exact ⟨[], rfl, rfl⟩
  | x :: acc, its, h => by
    cases h with
    | cons r t =>
      obtain ⟨tk, rfl⟩ := r
      obtain ⟨done, rfl, h2⟩ := str_vals t
      exact ⟨(x, tk) :: done, rfl, by rw [List.map_cons, h2]⟩
section
variable {X : Cx} {cs : CT}
def RepS (X : Cx) (cs : CT) (n : Nat) (f : D → Option Str) : Prop :=
  ∀ (A : Around) (g : List Code) (pins : List (Addr × Obj)) (s : Shared) (σ : L2.St) (H B : Hp) (ap : Addr) (p : Pt) (base : Nat) (d : D) (v : V) (v' : Value) (t : Str), Sub X n A → A.guards = some g → GCl X.K cs ap B g d → Inv X pins σ H s → Ex B H → PotAt ap H p → B ap = none → Rep X.K cs ap B d v → L2.RelV v v' → f d = some t → base + t.length ≤ sizeLine →
    wpAny (model X.prog X.w) A (pyReprUnder base v') (fun out s' => out = t ∧ Aft X pins σ ap B H p s') X.xe s
theorem RepS.mono {n m : Nat} {f : D → Option Str} (h : RepS X cs n f) (hn : n ≤ m) : RepS X cs m f := fun A g pins s σ H B ap p base d v v' t sb => h A g pins s σ H B ap p base d v v' t (sb.mono hn)
theorem repS_flat : RepS X cs 0 flT := by
  intro A g pins s σ H B ap p base d v v' t sb hg gc I e hp hb r rv h hz
  have fin : ∀ tk, Aft X pins σ ap B H p { s with toks := tk } := fun tk => ⟨B, H, I.tok _, Nxt.refl e, hp⟩
  cases d with
  | non =>
    simp only [Rep] at r
    subst r
    cases rv
    cases h
    exact ReprIs.none base hz A _ s _ fun tk => ⟨rfl, fin tk⟩
  | bl b =>
    simp only [Rep] at r
    subst r
    cases rv
    cases h
    exact ReprIs.bool b base hz A _ s _ fun tk => ⟨rfl, fin tk⟩
  | int i =>
    simp only [Rep] at r
    subst r
    obtain ⟨tk0, rfl⟩ := rv
    unfold flT at h
    dsimp only at h
    split at h
    · rename_i hi
      cases h
      exact ReprIs.int tk0 hi base hz A _ s _ fun tk => ⟨rfl, fin tk⟩
    · cases h
  | str x =>
    simp only [Rep] at r
    subst r
    obtain ⟨tk0, rfl⟩ := rv
    cases h
    exact ReprIs.str x tk0 (by omega) base hz A _ s _ fun tk => ⟨rfl, fin tk⟩
  | _ => cases h
theorem gcl_clear {pins : List (Addr × Obj)} {s : Shared} {σ : L2.St} {H B : Hp} {ap : Addr} {p : Pt} {g : List Code} {d : D} {a : Addr} (hinj : ∀ c c' C fn fn', cs c = some (C, fn) → cs c' = some (C, fn') → c = c') (I : Inv X pins σ H s) (e : Ex B H) (hp : PotAt ap H p) (hb : B ap = none) (r : Rep X.K cs ap B d (.ref a)) (gc : GCl X.K cs ap B g d) : Clear g a := by
  intro id v rest kw hm z
  obtain ⟨b, x, h1, h2, h3⟩ := gc id v rest kw hm
  rw [h1] at z
  cases z
  rw [rep_one I hinj e hp hb r h2] at h3
  exact Nat.lt_irrefl _ h3
theorem sub_loop {n : Nat} {A : Around} {args : Args} (sb : Sub X (n + 1) A) : Sub X n (A.under (.builtin "list.__repr__.loop" args)) :=
  ⟨⟨by rw [loop_hd]; exact sb.room.hd, by rw [loop_depth]; have := sb.room.dp; omega, by rw [units_under_list_loop]; have := sb.room.un; omega⟩, by rw [loop_frames]; exact sb.fr⟩
theorem sub_tupr {n : Nat} {A : Around} {args : Args} {id : String} (h : id = "tuple.__repr__" ∨ id = "tuple.__repr__.under") (hu : (A.under (.builtin id args)).units = A.units + 1) (sb : Sub X (n + 1) A) : Sub X n (A.under (.builtin id args)) :=
  ⟨⟨sb.room.hd, by rw [tupr_depth h]; have := sb.room.dp; omega, by rw [hu]; have := sb.room.un; omega⟩, by rw [tupr_frames h]; exact sb.fr⟩
theorem take_str {ts : List Str} {i : Nat} {t : Str} (h : ts[i]? = some t) : ts.take i ++ [t] = ts.take (i + 1) := by
  rw [List.take_add_one, h]; rfl
/-- the list's loop -/
theorem repr_loop {n : Nat} {f : D → Option Str} (h : RepS X cs n f) {A : Around} (sb : Sub X (n + 1) A) {g : List Code} {pins : List (Addr × Obj)} {σ : L2.St} {H B : Hp} {ap a P : Addr} {p : Pt} {ds : List D} {vs : List V} {ts : List Str} {base : Nat} {R : Result → Shared → Prop}
    (hg : A.guards = some g) (gc : GCl X.K cs ap B g (.lst ds)) (hap : B ap = none) (hpH : PotAt ap H p) (hx : ∀ e s, X.xe e s → R (.error e) s) (ha : B a = some (.lst vs)) (r : Reps X.K cs ap B ds vs) (ht : repL f ds = some ts) (hP : H P = none) (hBP : B P = none) (hsz : base + (listText ts).length ≤ sizeLine)
    (hR : ∀ s' u, Aft X pins σ ap B H p s' → R (.ok (.ret (.str (listText ts) u))) s') :
    ∀ (k i : Nat) (s : Shared) (B1 H1 : Hp), ds.length - i = k → i ≤ ds.length → Inv X pins σ H1 s → Nxt ap B H B1 H1 → PotAt ap H1 p → H1 P = some (.lst ((ts.take i).map V.str)) → B1 P = none →
    codeAny (model X.prog X.w) A (.builtin "list.__repr__.loop" ⟨[.ref a, rawInt i, .ref P, rawInt ((base + piled (ts.take i) : Nat) : Int)], []⟩) R s := by
  have hX : (listText ts).length = (textFrom 0 "[" ts).length + 1 := by
    show (textFrom 0 "[" ts ++ "]").length = _
    rw [strLen_append]; rfl
  have hL := textFrom_len ts 0 "["
  have hlen := repL_len ht
  have hsz2 : ∀ t ∈ ts, t.length ≤ sizeLine := fun t ht => by
    have h2 := hL.2.1 t ht
    omega
  have hsz3 : (listText ts).length ≤ sizeLine := by omega
  have hp3 := piled_le_listText ts
  have rl : Rep X.K cs ap B (.lst ds) (.ref a) := by simp only [Rep]; exact ⟨a, vs, rfl, ha, r⟩
  have Pap : P ≠ ap := fun z => by rw [z] at hP; rw [show H ap = _ from hpH] at hP; cases hP
  intro k
  induction k with
  | zero =>
    intro i s B1 H1 hk hi I n1 hp1 hPl hB1
    have hin : i = ds.length := by omega
    obtain ⟨its, m, rv, ho, _⟩ := I.lst (n1.bh _ _ (n1.bb _ _ ha))
    obtain ⟨its2, m2, rv2, ho2, _⟩ := I.lst hPl
    obtain ⟨done, hd1, hd2⟩ := str_vals rv2
    have hl1 : its.length = ds.length := by rw [← rv.length, r.length]
    refine codeAny_builtin F.entry_list_repr_loop ?_
    show wpAny _ _ («list.__repr__.loop» ⟨[.ref a, .int i 0, .ref P, .int ((base + piled (ts.take i) : Nat) : Int) 0], []⟩) _ _ s
    rw [repr_loop_tree]
    refine wpAny_bind (wpAny_listItems ho rfl ?_)
    have hnone : its.toArray[(i : Int).toNat]? = none := by simp [hin, hl1]
    simp only [hnone]
    unfold reprEnd
    refine wpAny_bind (wpAny_listItems ho2 rfl ?_)
    rw [show its2.toArray.toList = strValues done by rw [hd1], repr_fold]
    refine wpAny_bind (wpAny_pure ?_)
    have hall : done.map (·.1) = ts := by rw [hd2, hin, ← hlen, List.take_length]
    rw [hall]
    refine wpAny_bind (wpAny_mkStr (wpAny_pure ?_) hsz3)
    exact hR _ _ ⟨B1, H1, I.tok _, n1, hp1⟩
  | succ k ih =>
    intro i s B1 H1 hk hi I n1 hp1 hPl hB1
    have hlt : i < ds.length := by omega
    obtain ⟨its, m, rv, ho, _⟩ := I.lst (n1.bh _ _ (n1.bb _ _ ha))
    have hl1 : its.length = ds.length := by rw [← rv.length, r.length]
    obtain ⟨w, hw, rw'⟩ := r.get (List.getElem?_eq_getElem hlt)
    obtain ⟨w', hw', rww⟩ := rv.get hw
    obtain ⟨t, hft, hti⟩ := repL_get ht (List.getElem?_eq_getElem hlt)
    have hp1' := piled_take_succ hti
    have hp2' := piled_take_le ts (i + 1)
    refine codeAny_builtin F.entry_list_repr_loop ?_
    show wpAny _ _ («list.__repr__.loop» ⟨[.ref a, .int i 0, .ref P, .int ((base + piled (ts.take i) : Nat) : Int) 0], []⟩) _ _ s
    rw [repr_loop_tree]
    refine wpAny_bind (wpAny_listItems ho rfl ?_)
    have hsome : its.toArray[(i : Int).toNat]? = some w' := by simpa using hw'
    simp only [hsome]
    rw [Int.toNat_natCast]
    have hmem : ds[i] ∈ ds := List.getElem_mem hlt
    have apH : H ap ≠ none := by rw [show H ap = _ from hpH]; exact (fun z => nomatch z)
    have gc' : GCl X.K cs ap B1 (.builtin "list.__repr__.loop" ⟨[.ref a, .int i 0, .ref P, .int ((base + piled (ts.take i) : Nat) : Int) 0], []⟩ :: g) ds[i] := (gc.push rl (size_mem hmem).1).mono n1.bb
    refine wpAny_bind (wpAny_holding (wpAny_mono (h _ _ pins s σ H1 B1 ap p (base + piled (ts.take i) + 1) ds[i] w w' t (sub_loop sb) (guards_under_guard (isGuard_list_loop _) hg) gc' I n1.bh hp1 (n1.nw _ apH hap) (rw'.mono n1.bb) rww hft (by omega)) (fun out s2 q => ?_) fun e s2 q => hx e s2 q))
    obtain ⟨rfl, B2, H2, I2, n2, hp2⟩ := q
    refine wpAny_bind (wpAny_mkStr ?_ (hsz2 out (List.mem_of_getElem? hti)))
    refine wpAny_bind ?_
    show wpAny _ _ (updateSeq P _) _ _ _
    have hP2 : H2 P = some (.lst ((ts.take i).map V.str)) := n2.fr _ _ hPl Pap
    have hB2 : B2 P = none := n2.nw _ (by rw [hPl]; exact (fun z => nomatch z)) hB1
    obtain ⟨its2, m2, rv2, ho2, hz2⟩ := I2.lst hP2
    have hq2 : its2.length ≤ sizeLine := by rw [← rv2.length]; exact hz2
    have hti2 : (ts.take i).length ≤ i := by rw [List.length_take]; omega
    have hnew : ((ts.take (i + 1)).map V.str).length ≤ sizeLine := by
      rw [List.length_map, List.length_take]
      have h1 := hL.1
      rw [if_neg (Nat.lt_irrefl 0)] at h1
      omega
    have hv2 : Vals ((ts.take (i + 1)).map V.str) (its2 ++ [.str out s2.toks]) := by
      rw [← take_str hti, List.map_append]
      exact rv2.append (.cons ⟨_, rfl⟩ .nil)
    refine wpAny_updateSeq (o := { cls := .type "list", data := .seq its2.toArray m2 }) ho2 rfl (wpAny_pure ⟨F.quiet_list_repr_loop _, ?_⟩) (by simpa using hq2) (by rw [Array.size_push]; simpa using hq2)
    have e1 : ((i : Int) + 1) = ((i + 1 : Nat) : Int) := by omega
    have e2 : base + piled (ts.take i) + (out.length + 2) = base + piled (ts.take (i + 1)) := by omega
    rw [e1, e2]
    have I3 := I2.lset (t' := s2.toks + 1) (f := (·.push (Value.str out s2.toks))) (its' := its2 ++ [.str out s2.toks]) hP2 ho2 (by simp) hv2 hnew
    have n12 := n1.trans n2
    refine ih (i + 1) _ B2 (upd H2 P (.lst ((ts.take (i + 1)).map V.str))) (by omega) hlt I3 ?_ ?_ upd_same hB2
    · refine ⟨n12.bb, fun b o hbo => ?_, n12.nw, fun b o hbo hap' => ?_, fun b hbo => ?_⟩
      · have e9 : b ≠ P := fun z => by rw [z, hB2] at hbo; cases hbo
        rw [upd_ne e9]; exact n12.bh _ _ hbo
      · have e9 : b ≠ P := fun z => by rw [z, hP] at hbo; cases hbo
        rw [upd_ne e9]; exact n12.fr _ _ hbo hap'
      · have e9 : b ≠ P := fun z => hbo (by rw [z]; exact hP)
        rw [upd_ne e9]; exact n12.nn _ hbo
    · unfold PotAt; rw [upd_ne (fun z => Pap z.symm)]; exact hp2
/-- what repr of a list runs, behind its own check -/
theorem list_at {n : Nat} {f : D → Option Str} (h : RepS X cs n f) {A : Around} (sb : Sub X (n + 1) A) {g : List Code} {pins : List (Addr × Obj)} {s : Shared} {σ : L2.St} {H B : Hp} {ap a : Addr} {p : Pt} {x : D} {ds : List D} {vs : List V} {ts : List Str} {base : Nat} {R : Result → Shared → Prop}
    (hinj : ∀ c c' C fn fn', cs c = some (C, fn) → cs c' = some (C, fn') → c = c') (hg : A.guards = some g) (gc : GCl X.K cs ap B g (.lst (x :: ds))) (hap : B ap = none) (hpH : PotAt ap H p) (hx : ∀ e s, X.xe e s → R (.error e) s) (I : Inv X pins σ H s) (e : Ex B H) (ha : B a = some (.lst vs)) (r : Reps X.K cs ap B (x :: ds) vs)
    (ht : repL f (x :: ds) = some ts) (hsz : base + (listText ts).length ≤ sizeLine) (hR : ∀ s' u, Aft X pins σ ap B H p s' → R (.ok (.ret (.str (listText ts) u))) s') :
    wpAny (model X.prog X.w) A.in1 (Builtin.listReprAt base ⟨[.ref a], []⟩) (GQ.FinOf X.prog X.w A R) (fun e s' => R (.error e) s') s := by
  have rl : Rep X.K cs ap B (.lst (x :: ds)) (.ref a) := by simp only [Rep]; exact ⟨a, vs, rfl, ha, r⟩
  have hca := gcl_clear hinj I e hpH hap rl gc
  obtain ⟨its, m, rv, ho, hz⟩ := I.lst (e _ _ ha)
  obtain ⟨y, its', rfl⟩ : ∃ y its', its = y :: its' := by
    cases its with
    | nil => have := rv.length; rw [r.length] at this; simp at this
    | cons y its' => exact ⟨y, its', rfl⟩
  refine wpAny_list_repr_head (A := A.in1) hg (fun v rest kw hm => listSameRef_of_ne (hca _ _ _ _ hm)) ho rfl ?_
  refine wpAny_bind (m := newList []) (wpAny_newObj_type ?_)
  refine wpAny_pure ⟨F.quiet_list_repr_loop _, ?_⟩
  have hP : H s.heap.objs.size = none := I.fresh
  have hBP : B s.heap.objs.size = none := Evl.fresh_back e hP
  have I2 := I.lnew (its := []) (ys := []) (t' := s.toks) .nil (Nat.zero_le _)
  have n0 : Nxt ap B H B (upd H s.heap.objs.size (.lst [])) := Nxt.newU e hP
  exact repr_loop (P := s.heap.objs.size) h sb hg gc hap hpH hx ha r ht hP hBP hsz hR _ 0 _ B _ rfl (Nat.zero_le _) I2 n0 (hpH.new hP) upd_same hBP
theorem list_at0 {pins : List (Addr × Obj)} {s : Shared} {σ : L2.St} {H B : Hp} {ap a : Addr} {vs : List V} (I : Inv X pins σ H s) (e : Ex B H) (ha : B a = some (.lst vs)) (r : Reps X.K cs ap B [] vs) :
    ∃ o n, s.heap.get? a = some o ∧ o.cls = .type "list" ∧ o.data = .seq #[] n := by
  obtain ⟨its, m, rv, ho, hz⟩ := I.lst (e _ _ ha)
  have : its = [] := by
    cases its with
    | nil => rfl
    | cons y t => have := rv.length; rw [r.length] at this; simp at this
  subst this
  exact ⟨_, m, ho, rfl, rfl⟩
/-- an empty dict -/
theorem dict_at0 {pins : List (Addr × Obj)} {s : Shared} {σ : L2.St} {H B : Hp} {a : Addr} (I : Inv X pins σ H s) (e : Ex B H) (ha : B a = some (.dK [])) :
    ∃ o es n, s.heap.get? a = some o ∧ o.cls = .type "dict" ∧ o.data = .dict es n ∧ es.toList = [] ∧ (a == sysModules) = false := by
  obtain ⟨_, h0, vs, kv, o, es, ep, k1, k2, k3, _, k5, _⟩ := dk_of I.hok (e _ _ ha)
  cases kv
  refine ⟨o, es, ep, k1, k2.1, k3, ?_, h0⟩
  generalize es.toList = l at *
  cases k5
  rfl
/-- a tuple's items -/
theorem tup_fold {n : Nat} {f : D → Option Str} (h : RepS X cs n f) {A : Around} (sb : Sub X n A) {g : List Code} {pins : List (Addr × Obj)} {σ : L2.St} {H B : Hp} {ap : Addr} {p : Pt} (hg : A.guards = some g) (hap : B ap = none) (hpH : PotAt ap H p) :
    ∀ (ds : List D) (vs : List V) (its : List Value) (ts : List Str) (acc : Array Str) (m : Nat) (s : Shared) (B1 H1 : Hp) (Q : (Array Str × Nat) → Shared → Prop), (∀ d ∈ ds, GCl X.K cs ap B g d) → Reps X.K cs ap B ds vs → Vals vs its → repL f ds = some ts → m + piled ts ≤ sizeLine → Inv X pins σ H1 s → Nxt ap B H B1 H1 → PotAt ap H1 p →
    (∀ s', Aft X pins σ ap B H p s' → Q ⟨acc ++ ts.toArray, m + piled ts⟩ s') → wpAny (model X.prog X.w) A (forIn its (⟨acc, m⟩ : (Array Str × Nat)) tupBody) Q X.xe s := by
  intro ds
  induction ds with
  | nil =>
    intro vs its ts acc m s B1 H1 Q _ r rv ht _ I n1 hp1 k
    simp only [Reps] at r
    subst r
    cases rv
    cases ht
    have h0 := k s ⟨B1, H1, I, n1, hp1⟩
    simp only [List.forIn_nil]
    exact wpAny_pure (by simpa [piled] using h0)
  | cons d ds ih =>
    intro vs its ts acc m s B1 H1 Q gc r rv ht hm I n1 hp1 k
    simp only [Reps] at r
    obtain ⟨v, vs', rfl, r1, r2⟩ := r
    cases rv with
    | cons rx rr =>
      rename_i v' its'
      unfold repL at ht
      rcases z : f d with _ | t
      · rw [z] at ht; cases ht
      · rw [z] at ht
        rcases z2 : repL f ds with _ | ts'
        · rw [z2] at ht; cases ht
        · rw [z2] at ht
          cases ht
          rw [piled_cons] at hm
          rw [List.forIn_cons]
          have apH : H ap ≠ none := by rw [show H ap = _ from hpH]; exact (fun z => nomatch z)
          refine wpAny_bind (wpAny_bind (wpAny_mono (h A g pins s σ H1 B1 ap p (m + 1) d v v' t sb hg ((gc d List.mem_cons_self).mono n1.bb) I n1.bh hp1 (n1.nw _ apH hap) (r1.mono n1.bb) rx z (by omega)) (fun out s2 q => ?_) fun _ _ x => x))
          obtain ⟨rfl, B2, H2, I2, n2, hp2⟩ := q
          refine wpAny_pure ?_
          refine ih vs' its' ts' (acc.push out) (m + (out.length + 2)) s2 B2 H2 Q (fun d' hd' => gc d' (List.mem_cons_of_mem _ hd')) r2 rr z2 (by omega) I2 (n1.trans n2) hp2 fun s' a' => ?_
          have h1 := k s' a'
          have e : m + piled (out :: ts') = m + (out.length + 2) + piled ts' := by rw [piled_cons]; omega
          rw [e] at h1
          simpa using h1
theorem tup_at {n : Nat} {f : D → Option Str} (h : RepS X cs n f) {A : Around} (sb : Sub X (n + 1) A) {g : List Code} {pins : List (Addr × Obj)} {s : Shared} {σ : L2.St} {H B : Hp} {ap a : Addr} {p : Pt} {ds : List D} {vs : List V} {ts : List Str} {base : Nat} {R : Result → Shared → Prop} {id : String} {rest : List Value}
    (hid : id = "tuple.__repr__" ∨ id = "tuple.__repr__.under") (hcg : (Code.builtin id ⟨.ref a :: rest, []⟩).isGuard = true) (hcu : (A.under (.builtin id ⟨.ref a :: rest, []⟩)).units = A.units + 1)
    (hinj : ∀ c c' C fn fn', cs c = some (C, fn) → cs c' = some (C, fn') → c = c') (hg : A.guards = some g) (gc : GCl X.K cs ap B g (.tup ds)) (hap : B ap = none) (hpH : PotAt ap H p) (hx : ∀ e s, X.xe e s → R (.error e) s) (I : Inv X pins σ H s) (e : Ex B H) (ha : SqT X.K B a vs) (r : Reps X.K cs ap B ds vs)
    (ht : repL f ds = some ts) (hsz : base + (tupleText ts).length ≤ sizeLine) (hR : ∀ s' u, Aft X pins σ ap B H p s' → R (.ok (.ret (.str (tupleText ts) u))) s') :
    wpOwn (model X.prog X.w) A (.builtin id ⟨.ref a :: rest, []⟩) (Builtin.tupleReprAt base ⟨[.ref a], []⟩) (GQ.FinOf X.prog X.w A R) (fun e s' => R (.error e) s') s := by
  have rl : Rep X.K cs ap B (.tup ds) (.ref a) := by simp only [Rep]; exact ⟨a, vs, rfl, ha, r⟩
  have hca := gcl_clear hinj I e hpH hap rl gc
  obtain ⟨its, rv, ⟨o, ho, hc, m, hd⟩, hz⟩ := I.tuple (Evl.ex_t e ha)
  have hlen : ts.length = its.length := by rw [← rv.length, r.length, repL_len ht]
  have hp := piled_le_tupleText ts
  have hsz0 : (tupleText ts).length ≤ sizeLine := by omega
  rw [tuple_repr_tree, tupleReprUnderWay_eq]
  refine wpOwn_bind (wpOwn_stackTailAny hg (tupGuardF_off _) (tupGuardF_pos _) ?_)
  have hn : (g.any fun c => tupGuardF (.ref a) (c, default)) = false := by
    rw [List.any_eq_false]
    intro c hcm
    rw [tupGuardF_of_clear hca c hcm]
    exact Bool.false_ne_true
  rw [hn]
  refine wpOwn_of_wpAny ?_
  show wpAny _ _ (tupleReprRest base (.ref a)) _ _ s
  unfold tupleReprRest Builtin.Tuple.tupleItemsOf
  refine wpAny_bind (wpAny_bind (wpAny_seqItems ho hd (wpAny_pure ?_)))
  rw [← Array.forIn_toList]
  have hk := tup_fold (X := X) (cs := cs) h (sub_tupr hid hcu sb) (pins := pins) (σ := σ) (B := B) (guards_under_guard hcg hg) hap hpH ds vs its ts
  refine wpAny_bind (wpAny_mono (Q := fun b s' => ∃ b2 : Array Str × Nat, b = b2 ∧ Aft X pins σ ap B H p s' ∧ b2.1.toList = ts) (E := X.xe) ?_ (fun b s2 q => ?_) fun e s2 q => hx e s2 q)
  · have hd' : o.data = .seq its.toArray m := hd
    refine hk #[] _ s B H _ (fun d hm => gc.push rl (size_mem hm).2) r rv ht ?_ I (Nxt.refl e) hpH fun s' a' => ⟨_, rfl, a', by simp⟩
    omega
  · obtain ⟨b2, rfl, a2, hb2⟩ := q
    refine wpAny_bind (wpAny_mkStr (wpAny_pure ?_) (by rw [hb2]; simpa [tupleText, hlen] using hsz0))
    obtain ⟨B2, H2, I2, n2, hp2⟩ := a2
    have h1 := hR { s2 with toks := s2.toks + 1 } s2.toks ⟨B2, H2, I2.tok _, n2, hp2⟩
    rw [hb2]
    simpa [tupleText, hlen] using h1
/-- an own __repr__ where a text is wanted -/
theorem ifBoundBy_K {K : PySem.W.Frag} {M : Model} {A : Around} {E : Value → Shared → Prop} {s : Shared} {x C f : Addr} {ox : Obj} {od : Option Obj} {name : Str} {last : Value → List Value → Sem Value} {Q : Option Value → Shared → Prop} (X : K.In s.heap) (I : PySem.W.InstAt s.heap x ox C od)
    (hs : PySem.W.findIn K (.ref C) name = some (some (.ref f))) (hf : PySem.W.isFn K (.ref f) = true) (h : wpAny M A (last (.ref f) [.ref x]) (fun v => Q (some v)) E s) : wpAny M A (callSpecialIfBoundBy? last (.ref x) name) Q E s := by
  simp only [callSpecialIfBoundBy?, bindSpecialIfBound?]
  refine wpAny_holding (wpAny_bind (wpAny_bind (wpAny_bind (I.type.here ((PySem.W.looks_findIn X hs).here ?_)))))
  refine wpAny_bind (wpAny_askSetting (wpAny_ite ?_))
  have fin : wpAny M A (last (.ref f) [.ref x] >>= fun v => pure (some v)) Q E s := wpAny_bind (wpAny_mono h (fun v s' h' => wpAny_pure h') fun _ _ h' => h')
  split
  · exact wpAny_bind ((PySem.W.bind_fn X _ (beq_iff_eq.mp hf)).here (wpAny_pure (by exact fin)))
  · exact wpAny_tryCatch (wpAny_bind ((PySem.W.bind_fn X _ (beq_iff_eq.mp hf)).here (wpAny_pure (by exact fin))))
/-- the own __repr__, called -/
theorem own_repr {k : Nat} {u : Nat → List D → Option Str} (U : URep X cs k u) {A : Around} (sb : Sub X k A) {pins : List (Addr × Obj)} {s : Shared} {σ : L2.St} {H B : Hp} {ap a : Addr} {p : Pt} {c : Nat} {fs : List D} {t : Str} (I : Inv X pins σ H s) (e : Ex B H) (hp : PotAt ap H p) (hb : B ap = none) (r : Rep X.K cs ap B (.ins c fs) (.ref a)) (h : u c fs = some t) :
    ∃ (C f : Addr) (ox : Obj) (od : Option Obj), PySem.W.InstAt s.heap a ox C od ∧ PySem.W.findIn X.K (.ref C) "__repr__" = some (some (.ref f)) ∧ PySem.W.isFn X.K (.ref f) = true ∧
      wpAny (model X.prog X.w) A (call (.ref f) [.ref a]) (fun v s' => ∃ tk, v = .str t tk ∧ Aft X pins σ ap B H p s') X.xe s := by
  obtain ⟨C, fn, f', fd, ps, fm, T, hs, hf, F, hbd, hfm⟩ := U.of c fs t h
  obtain ⟨a', dx, fs', z, g1, g2, g3⟩ := rep_ins T r
  cases z
  obtain ⟨mA, J, _⟩ := ins_get I.hok (e _ _ g1)
  obtain ⟨od, J, _⟩ := J.look
  refine ⟨C, f', _, _, J, hs, hf, ?_⟩
  have hsp : spD X.K cs 1 fm [.ref a] H (fun v H' => v = .str t ∧ ∃ B', Nxt ap B H B' H' ∧ PotAt ap H' p) E0 := ⟨ap, B, _, p, _, p, rfl, e, hp, hb, reps_cons r reps_nil, hfm p, fun B' H' v n hp' r' => by
    simp only [Rep] at r'
    exact ⟨r', B', n, hp'⟩⟩
  have e0 : Env0 X.prog X.w X.K X.mg X.base A X.stack s H := by
    have z := I.env0
    exact ⟨by rw [sb.fr]; exact z.frames, z.mod, z.bs, z.bsz, z.funs, z.frf, z.hok, z.bare⟩
  have hl := F.len _ _ _ _ hsp
  have r2 : Vals [V.ref a] [Value.ref a] := .cons rfl .nil
  refine wpAny_call (codeAny_mono (F.run A X.stack s H ⟨[.ref a], []⟩ [.ref a] [.ref a] _ E0 sb.room (fun z => nomatch z) e0 (by
    have := hbd s [.ref a] I.kIn (by simpa using hl)
    simpa using this) r2 hsp) fun r s' hq => ?_)
  cases r with
  | error e => exact hq.elim
  | ok fl =>
    cases fl with
    | ret w =>
      obtain ⟨z, H', I', rz, ez, B', n', hp'⟩ := I.after hq
      subst ez
      obtain ⟨tk, rfl⟩ := rz
      exact ⟨tk, rfl, B', H', I', n', hp'⟩
    | next => exact hq.elim
    | brk => exact hq.elim
    | cont => exact hq.elim
theorem under_own {K : PySem.W.Frag} {A : Around} {E : Value → Shared → Prop} {prog : Program} {w : World} {s : Shared} {x C f : Addr} {ox : Obj} {od : Option Obj} {b : Nat} {t : Str} {Q : Str → Shared → Prop} (hu : A.units < cLine) (hb : b ≤ sizeLine) (X : K.In s.heap) (I : PySem.W.InstAt s.heap x ox C od)
    (hs : PySem.W.findIn K (.ref C) "__repr__" = some (some (.ref f))) (hf : PySem.W.isFn K (.ref f) = true) (h : wpAny (model prog w) A (call (.ref f) [.ref x]) (fun v s' => ∃ tk, v = .str t tk ∧ Q t s') E s) : wpAny (model prog w) A (pyReprUnder b (.ref x)) Q E s := by
  refine wpAny_pyReprUnder_ref hb ?_
  unfold pyReprObjUnder pyReprObjBy
  refine wpAny_bind (wpAny_cRoomFor hu ?_)
  refine wpAny_bind (wpAny_bind (I.type.here ((PySem.W.looks_findIn X hs).here ?_)))
  show wpAny _ _ (if (some (Value.ref f)).isNone = true then _ else _) _ _ _
  rw [if_neg (by simp)]
  refine wpAny_bind (ifBoundBy_K (name := Str.ofString "__repr__") X I hs hf ?_)
  show wpAny _ _ (call (.ref f) ([.ref x] ++ [])) _ _ _
  refine wpAny_mono h (fun v s' hv => ?_) fun _ _ y => y
  obtain ⟨tk, rfl, q⟩ := hv
  exact wpAny_bind (wpAny_isInstance (T := "str") (b := true) rfl isSubtype_str_str (wpAny_pure ⟨t, tk, rfl, q⟩))
end
end DL
end

section
set_option Elab.async false
set_option linter.all false
set_option maxRecDepth 100000
set_option maxHeartbeats 4000000
/-! DL: repr(x). -/
namespace DL
open PySem PySem.Spec PyProof.Rows L2
open Evl (Ex)
section
variable {X : Cx} {cs : CT}
theorem repT_cases {u : Nat → List D → Option Str} {n : Nat} {d : D} {t : Str} (h : repT u (n + 1) d = some t) :
    flT d = some t ∨ (∃ ds ts, d = .lst ds ∧ repL (repT u n) ds = some ts ∧ t = listText ts) ∨ (∃ ds ts, d = .tup ds ∧ repL (repT u n) ds = some ts ∧ t = tupleText ts) ∨ (∃ c fs, d = .ins c fs ∧ u c fs = some t) ∨ (d = .ed ∧ t = dictText []) := by
  unfold repT at h
  split at h
  · rename_i ds
    rcases z : repL (repT u n) ds with _ | ts
    · rw [z] at h; cases h
    · rw [z] at h; cases h; exact .inr (.inl ⟨ds, ts, rfl, z, rfl⟩)
  · rename_i ds
    rcases z : repL (repT u n) ds with _ | ts
    · rw [z] at h; cases h
    · rw [z] at h; cases h; exact .inr (.inr (.inl ⟨ds, ts, rfl, z, rfl⟩))
  · exact .inr (.inr (.inr (.inl ⟨_, _, rfl, h⟩)))
  · cases h; exact .inr (.inr (.inr (.inr ⟨rfl, rfl⟩)))
  · exact .inl h
theorem repS_rep {k : Nat} {u : Nat → List D → Option Str} (U : URep X cs k u) : ∀ n, RepS X cs (k + n) (repT u n)
  | 0 => RepS.mono repS_flat (Nat.zero_le _)
  | n + 1 => by
    intro A g pins s σ H B ap p base d v v' t sb hg gc I e hp hb r rv h hz
    rcases repT_cases h with h1 | ⟨ds, ts, rfl, h1, rfl⟩ | ⟨ds, ts, rfl, h1, rfl⟩ | ⟨c, fs, rfl, h1⟩ | ⟨rfl, rfl⟩
    · exact RepS.mono repS_flat (Nat.zero_le _) A g pins s σ H B ap p base d v v' t sb hg gc I e hp hb r rv h1 hz
    · have r' := r
      simp only [Rep] at r'
      obtain ⟨a, vs, rfl, ha, rr⟩ := r'
      cases rv
      have hb0 : base ≤ sizeLine := by omega
      obtain ⟨its, m, _, ho, _⟩ := I.lst (e _ _ ha)
      cases ds with
      | nil =>
        cases h1
        obtain ⟨o, n0, g1, g2, g3⟩ := list_at0 I e ha rr
        exact wpAny_pyReprUnder_ref hb0 (wpAny_pyReprObjUnder_list_empty ⟨_, g1, g2⟩ sb.room.units0 g1 g3 ⟨_, _, rfl, rfl, B, H, I.tok _, Nxt.refl e, hp⟩)
      | cons x ds =>
        refine wpAny_pyReprUnder_ref hb0 (wpAny_pyReprObjUnder_twin (twin := "list.__repr__.under") ⟨_, ho, rfl⟩ F.slot_list_repr.toG rfl sb.room.units0 ?_)
        refine call_twin_plain F.plain_list_repr_under F.entry_list_repr_under F.check_list_repr_under ⟨_, ho, rfl⟩ F.slot_list_repr.toG (F.args_list_repr_1 _) ?_
        exact list_at (R := callEnd _ X.xe) (n := k + n) (repS_rep U n) sb U.inj hg gc hb hp (fun e s' z => z) I e ha rr h1 hz fun s' tk a2 => ⟨⟨_, _, rfl⟩, _, _, rfl, rfl, a2⟩
    · have r' := r
      simp only [Rep] at r'
      obtain ⟨a, vs, rfl, ha, rr⟩ := r'
      cases rv
      have hb0 : base ≤ sizeLine := by omega
      obtain ⟨its, _, ⟨o, ho, hc, m, hd⟩, _⟩ := I.tuple (Evl.ex_t e ha)
      refine wpAny_pyReprUnder_ref hb0 (wpAny_pyReprObjUnder_twin (twin := "tuple.__repr__.under") ⟨_, ho, hc⟩ F.slot_tuple_repr rfl sb.room.units0 ?_)
      refine call_twin_own (F.quiet_tuple_repr_under _) F.entry_tuple_repr_under F.check_tuple_repr_under ⟨_, ho, hc⟩ F.slot_tuple_repr (F.args_tuple_repr_1 _) ?_
      exact tup_at (R := callEnd _ X.xe) (n := k + n) (repS_rep U n) sb (.inr rfl) (isGuard_tuple_repr_under _) (units_under_tuple_repr_under _ _) U.inj hg gc hb hp (fun e s' z => z) I e ha rr h1 hz fun s' tk a2 => ⟨⟨_, _, rfl⟩, _, _, rfl, rfl, a2⟩
    · obtain ⟨a, hv⟩ : ∃ a, v = .ref a := by
        simp only [Rep] at r
        obtain ⟨a, _, _, _, _, z, _⟩ := r
        exact ⟨a, z⟩
      subst hv
      cases rv
      obtain ⟨C, f, ox, od, J, hs, hf, hq⟩ := own_repr U (sb.mono (by omega : k ≤ k + (n + 1))) I e hp hb r h1
      refine under_own (t := t) sb.room.units0 (by omega) I.kIn J hs hf (wpAny_mono hq (fun v s' z => ?_) fun _ _ y => y)
      obtain ⟨tk, rfl, a2⟩ := z
      exact ⟨tk, rfl, rfl, a2⟩
    · simp only [Rep] at r
      obtain ⟨a, rfl, ha⟩ := r
      cases rv
      obtain ⟨o, es, m, g1, g2, g3, g4, g5⟩ := dict_at0 I e ha
      refine wpAny_pyReprUnder_ref (by omega) ?_
      refine wpAny_pyReprObjUnder_dictK (as := []) (h₀ := s.heap) (d := 0) (ps := []) g1 g2 g3 g5 (by simp) (by rw [g4]; exact .nil) hg (fun b hb => ?_) (by have := sb.room.un; omega) (fun _ _ z => z) (fun h' u tk hk => ⟨_, _, rfl, rfl, B, H, I.kept hk, Nxt.refl e, hp⟩) hz
      rcases List.mem_cons.mp hb with rfl | hb
      · exact gcl_clear U.inj I e hp ‹_› (by simp only [Rep]; exact ⟨b, rfl, ha⟩) gc
      · cases hb
/-- repr(x): an int, a list, a tuple, an instance -/
def cRepr (u : Nat → List D → Option Str) (n : Nat) : List D → Mo D := fun ds => match ds with
  | [.int i] => if i.natAbs.log2 < 1920 then retM (.str (toString i)) else failM
  | [.lst es] => match repT u (n + 1) (.lst es) with
    | some t => if t.length ≤ 10000000 then retM (.str t) else failM
    | none => failM
  | [.tup es] => match repT u (n + 1) (.tup es) with
    | some t => if t.length ≤ 10000000 then retM (.str t) else failM
    | none => failM
  | [.ins c fs] => match repT u (n + 1) (.ins c fs) with
    | some t => if t.length ≤ 10000000 then retM (.str t) else failM
    | none => failM
  | [.ed] => match repT u (n + 1) .ed with
    | some t => if t.length ≤ 10000000 then retM (.str t) else failM
    | none => failM
  | [.non] => retM (.str "None")
  | [.bl b] => retM (.str (if b then "True" else "False"))
  | [.str x] => if (reprText x).length ≤ 10000000 then retM (.str (reprText x)) else failM
  | _ => failM
def rRepr (X : Cx) (cs : CT) (u : Nat → List D → Option Str) (n : Nat) : List V → Hp → VK → Prop := fun vs H Q => (∃ i, vs = [.int i] ∧ i.natAbs.log2 < 1920 ∧ Q (.str (toString i)) H) ∨ (vs = [.non] ∧ Q (.str "None") H) ∨ (∃ b, vs = [.bl b] ∧ Q (.str (if b then "True" else "False")) H) ∨ (∃ x, vs = [.str x] ∧ (reprText x).length ≤ sizeLine ∧ Q (.str (reprText x)) H) ∨
  ∃ ap B p d v t, vs = [v] ∧ Ex B H ∧ PotAt ap H p ∧ B ap = none ∧ Rep X.K cs ap B d v ∧ ((∃ es, d = .lst es) ∨ (∃ es, d = .tup es) ∨ (∃ c fs, d = .ins c fs) ∨ d = .ed) ∧ repT u (n + 1) d = some t ∧ t.length ≤ sizeLine ∧ ∀ B' H', Nxt ap B H B' H' → PotAt ap H' p → Q (.str t) H'
theorem callR_repr {k : Nat} {u : Nat → List D → Option Str} (n : Nat) (U : URep X cs k u) (hr : Room (k + n + 2) X.A) (hg : X.A.guards = some []) : CallR X (.builtin "repr") (rRepr X cs u n) := by
  intro pins s σ H xs us Q I rv h
  rcases h with h | ⟨rfl, q⟩ | ⟨b, rfl, q⟩ | ⟨x, rfl, hz, q⟩ | ⟨ap, B, p, d, v, t, rfl, e, hp, hb, r, hs, ht, hz, q⟩
  · exact SkE.call_repr_int pins s σ H xs us Q I rv h
  · obtain ⟨u, rfl, rx⟩ := vals1 rv
    cases rx
    exact PySem.P.repr_of_none ⟨.str _, H, I.tok _, ⟨_, rfl⟩, q⟩
  · obtain ⟨u, rfl, rx⟩ := vals1 rv
    cases rx
    exact PySem.P.repr_of_bool ⟨.str _, H, I.tok _, ⟨_, rfl⟩, q⟩
  · obtain ⟨u, rfl, t, rfl⟩ := vals1 rv
    exact PySem.P.repr_of_str ⟨.str _, H, I.tok _, ⟨_, rfl⟩, q⟩ hz
  · obtain ⟨v', rfl, rx⟩ := vals1 rv
    have hu : X.A.units + 1 < cLine := by have := hr.un; omega
    have sb : Sub X (k + n + 1) X.A.in1 := ⟨hr.in1, rfl⟩
    have fin : ∀ {s' : Shared} {tk : Tok}, Aft X pins σ ap B H p s' → EP X pins σ Q (.str t tk) s' := fun {s' tk} ⟨B', H', I', n', hp'⟩ => ⟨.str t, H', I', ⟨tk, rfl⟩, q B' H' n' hp'⟩
    rcases repT_cases ht with h1 | ⟨ds, ts, rfl, h1, rfl⟩ | ⟨ds, ts, rfl, h1, rfl⟩ | ⟨c, fs, rfl, h1⟩ | ⟨rfl, rfl⟩
    · rcases hs with ⟨es, rfl⟩ | ⟨es, rfl⟩ | ⟨c, fs, rfl⟩ | rfl <;> cases h1
    · have r' := r
      simp only [Rep] at r'
      obtain ⟨a, vs, rfl, ha, rr⟩ := r'
      cases rx
      obtain ⟨its, m, _, ho, _⟩ := I.lst (e _ _ ha)
      refine call_repr_slot hu ⟨_, ho, rfl⟩ F.slot_list_repr.toG ?_
      cases ds with
      | nil =>
        cases h1
        obtain ⟨o, n0, g1, g2, g3⟩ := list_at0 I e ha rr
        exact call_list_repr_empty ⟨_, g1, g2⟩ g1 g3 ⟨_, _, rfl, fin ⟨B, H, I.tok _, Nxt.refl e, hp⟩⟩
      | cons x ds =>
        exact wpAny_call (codeAny_call_builtin F.slot_list_repr.plain F.entry_list_repr (F.slot_list_repr.check _ _ _ _ _ _ _ _ ⟨_, ho, rfl⟩ (F.args_list_repr_1 _)
          (list_at (base := 0) (R := callEnd _ X.xe) (n := k + n) (repS_rep U n) sb U.inj hg (fun id v rest kw z => nomatch z) hb hp (fun e s' z => z) I e ha rr h1 (by omega) fun s' tk a2 => ⟨_, _, rfl, fin a2⟩)))
    · have r' := r
      simp only [Rep] at r'
      obtain ⟨a, vs, rfl, ha, rr⟩ := r'
      cases rx
      obtain ⟨its, _, ⟨o, ho, hc, m, hd⟩, _⟩ := I.tuple (Evl.ex_t e ha)
      refine call_repr_slot hu ⟨_, ho, hc⟩ F.slot_tuple_repr ?_
      exact wpAny_call (codeAny_call_builtin_own (Code.quiet_builtin _ (by decide +kernel)) F.entry_tuple_repr (F.slot_tuple_repr.check _ _ _ _ _ _ _ _ ⟨_, ho, hc⟩ (F.args_tuple_repr_1 _)
        (tup_at (base := 0) (R := callEnd _ X.xe) (n := k + n) (repS_rep U n) sb (.inl rfl) (isGuard_tuple_repr _) (units_under_tuple_repr _ _) U.inj hg (fun id v rest kw z => nomatch z) hb hp (fun e s' z => z) I e ha rr h1 (by omega) fun s' tk a2 => ⟨_, _, rfl, fin a2⟩)))
    · obtain ⟨a, hv⟩ : ∃ a, v = .ref a := by
        simp only [Rep] at r
        obtain ⟨a, _, _, _, _, z, _⟩ := r
        exact ⟨a, z⟩
      subst hv
      cases rx
      obtain ⟨C, f, ox, od, J, hs, hf, hq⟩ := own_repr U (sb.mono (by omega : k ≤ k + n + 1)) I e hp hb r h1
      obtain ⟨m, hF⟩ := I.fr
      refine PySem.W.repr_K (by show X.A.units + 1 < cLine; exact hu) hF I.ok.mod.kin J hs hf (wpAny_mono hq (fun v s' z => ?_) fun _ _ y => y)
      obtain ⟨tk, rfl, a2⟩ := z
      exact fin a2
    · simp only [Rep] at r
      obtain ⟨a, rfl, ha⟩ := r
      cases rx
      obtain ⟨o, es, m, g1, g2, g3, g4, g5⟩ := dict_at0 I e ha
      refine call_repr_slot hu ⟨_, g1, g2⟩ F.slot_dict_repr ?_
      exact call_dict_reprK (as := []) (h₀ := s.heap) (d := 0) (ps := []) g1 g2 g3 g5 (by simp) (by rw [g4]; exact .nil) hg (fun b hb => Clear.nil b) (by have := hr.un; show X.A.units + 1 + (0 + 1) < cLine; omega) (fun _ _ z => z) (fun h' u tk hk => ⟨_, _, rfl, fin ⟨B, H, I.kept hk, Nxt.refl e, hp⟩⟩) hz
theorem ca_repr {k : Nat} {u : Nat → List D → Option Str} (n : Nat) (U : URep X cs k u) (hr : Room (k + n + 2) X.A) (hg : X.A.guards = some []) : CaD cs X (.builtin "repr") (cRepr u n) := by
  refine ⟨_, callR_repr n U hr hg, fun ap B H p ds vs Q d p' e hp hb r hm q => ?_⟩
  have fin : ∀ x v t, Rep X.K cs ap B x v → repT u (n + 1) x = some t → ((∃ es, x = .lst es) ∨ (∃ es, x = .tup es) ∨ (∃ c fs, x = .ins c fs) ∨ x = .ed) → (if t.length ≤ 10000000 then retM (D.str t) else failM) p = some (d, p') → rRepr X cs u n [v] H Q := by
    intro x v t rx ht hs hm
    split at hm
    · rename_i hz
      cases hm
      exact .inr (.inr (.inr (.inr ⟨ap, B, p, x, v, t, rfl, e, hp, hb, rx, hs, ht, Nat.le_trans hz (by rw [sizeLine_eq]; decide), fun B' H' n' hp' => q B' H' _ n' hp' (by simp only [Rep])⟩)))
    · cases hm
  unfold cRepr at hm
  split at hm
  · obtain ⟨v, rfl, rv⟩ := reps1 r
    simp only [Rep] at rv
    split at hm
    · rename_i i hi
      cases hm
      exact .inl ⟨i, by rw [rv], hi, q B H _ (Nxt.refl e) hp (by simp only [Rep])⟩
    · cases hm
  · rename_i es
    obtain ⟨v, rfl, rv⟩ := reps1 r
    rcases z : repT u (n + 1) (.lst es) with _ | t
    · rw [z] at hm; cases hm
    · rw [z] at hm; exact fin _ v t rv z (.inl ⟨_, rfl⟩) hm
  · rename_i es
    obtain ⟨v, rfl, rv⟩ := reps1 r
    rcases z : repT u (n + 1) (.tup es) with _ | t
    · rw [z] at hm; cases hm
    · rw [z] at hm; exact fin _ v t rv z (.inr (.inl ⟨_, rfl⟩)) hm
  · rename_i c es
    obtain ⟨v, rfl, rv⟩ := reps1 r
    rcases z : repT u (n + 1) (.ins c es) with _ | t
    · rw [z] at hm; cases hm
    · rw [z] at hm; exact fin _ v t rv z (.inr (.inr (.inl ⟨_, _, rfl⟩))) hm
  · obtain ⟨v, rfl, rv⟩ := reps1 r
    rcases z : repT u (n + 1) .ed with _ | t
    · rw [z] at hm; cases hm
    · rw [z] at hm; exact fin _ v t rv z (.inr (.inr (.inr rfl))) hm
  · obtain ⟨v, rfl, rv⟩ := reps1 r
    simp only [Rep] at rv
    cases hm
    exact .inr (.inl ⟨by rw [rv], q B H _ (Nxt.refl e) hp (by simp only [Rep])⟩)
  · rename_i b
    obtain ⟨v, rfl, rv⟩ := reps1 r
    simp only [Rep] at rv
    cases hm
    exact .inr (.inr (.inl ⟨b, by rw [rv], q B H _ (Nxt.refl e) hp (by simp only [Rep])⟩))
  · rename_i x
    obtain ⟨v, rfl, rv⟩ := reps1 r
    simp only [Rep] at rv
    split at hm
    · rename_i hz
      cases hm
      exact .inr (.inr (.inr (.inl ⟨x, by rw [rv], Nat.le_trans hz (by rw [sizeLine_eq]; decide), q B H _ (Nxt.refl e) hp (by simp only [Rep])⟩)))
    · cases hm
  · cases hm
end
end DL
end

section
set_option Elab.async false
set_option linter.all false
set_option maxRecDepth 100000
set_option maxHeartbeats 4000000
set_option exponentiation.threshold 20000
/-! DL: isinstance, texts, f-strings, lcm, divmod, lists unpacked. -/
namespace DL
open PySem PySem.Spec PyProof.Rows L2
open Evl (Ex)
section
variable {cs : CT} {X : Cx} {e a b : Expr} {es : List Expr} {m ma mb : Env' → Mo D} {pos : Pos}
/-! ### isinstance -/
theorem ta_two {K : PySem.W.Frag} {te : TE} {c : V} (h : EvE K cs te m) {ap : Addr} {H0 B0 B : Hp} {σ : L2.St} {env : Env'} {H : Hp} {p p1 : Pt} {d : D} {Q : List V → Hp → Prop} (k : Ok K cs ap H0 B0 B σ env H p) (e1 : m env p = some (d, p1))
    (q : ∀ B' H' v, Nxt ap B H B' H' → PotAt ap H' p1 → Rep K cs ap B' d v → Q [v, c] H') : tCons te (tCons (tC c) tNil) σ H Q :=
  h ap H0 B0 B σ env H p _ d p1 k e1 fun B' H' v n hp r => q B' H' v n hp r
theorem p_isT (T : String) {x : Str} {fp xp : Pos} (I : IsiF X.K cs) (hm : X.mg "isinstance" = none) (hx : X.mg x = none) (ha : PED cs X e m) (hv : bootBuiltins x = some (.type T) := by decide +kernel) (hb : bootBuiltins "isinstance" = some (.builtin "isinstance") := by decide +kernel) (hg : Gl X "isinstance" := by rfl) (hgx : Gl X x := by rfl)
    (hn : x ≠ "__name__" := by decide) (hd : (x == ("__debug__" : Str)) = false := by decide)
    (he : starEach [e, .Name x xp] X.env = (false, eval e X.env) :: starEach [.Name x xp] X.env := by rfl) (he2 : starEach [.Name x xp] X.env = (false, eval (.Name x xp) X.env) :: starEach [] X.env := by rfl) (hpl : (backTo pos (starEach [.Name x xp] X.env)).any (·.1) = false := by rfl) :
    PED cs X (.Call (.Name "isinstance" fp) [e, .Name x xp] [] pos) (mIsT T m) := by
  obtain ⟨te, h1, h2⟩ := ha.ex
  refine ⟨_, pe_callB call_isi hg hm hb (L2.pa_cons h1 (L2.pa_cons (pe_bltn (v := .ty T) hgx hx hv rfl hn hd) L2.pa_nil he2) he) (by decide) (by decide) he hpl, fun ap H0 B0 B σ env H p Q d p' k hmm q => ?_⟩
  obtain ⟨y, p1, e1, e2⟩ := bindM_some hmm
  rcases z : isT T y with _ | b
  · rw [z] at e2; cases e2
  · rw [z] at e2
    cases e2
    refine ta_two h2 k e1 fun B' H' v n hp r => ?_
    obtain ⟨t, t1, t2⟩ := kit_T I n.bh r z
    exact ⟨v, .ty T, t, .type T, b, rfl, .ty T, t1, t2, q B' H' _ n hp (by simp only [Rep])⟩
theorem isC_kit {K : PySem.W.Frag} {ap : Addr} {B H : Hp} {d : D} {v : V} {c : Nat} {C : Addr} {fn : List Str} {b : Bool} (I : IsiF K cs) (hc : cs c = some (C, fn)) (e : Ex B H) (r : Rep K cs ap B d v) (hb : isC c d = some b) : ∃ t, TyX K H v t ∧ PySem.W.kitOne K t (.ref C) = some b := by
  rcases ty_of I e r with ⟨n, h1, h2, h3⟩ | ⟨c', ds, C', fn', rfl, h1, h2⟩ | rfl
  · have hf : b = false := by
      cases d <;> simp only [tyN] at h1 <;> first | (cases h1; done) | (simp only [isC] at hb; cases hb; rfl)
    subst hf
    exact ⟨_, h3, I.o c C fn hc n h2⟩
  · simp only [isC] at hb
    cases hb
    exact ⟨_, h2, I.cc c' C' fn' c C fn h1 hc⟩
  · simp only [isC] at hb
    cases hb
theorem p_isC {c : Nat} {C : Addr} {fn : List Str} {x : Str} {fp xp : Pos} (I : IsiF X.K cs) (hc : cs c = some (C, fn)) (hm : X.mg "isinstance" = none) (hx : X.mg x = some (.ref C)) (ha : PED cs X e m) (hb : bootBuiltins "isinstance" = some (.builtin "isinstance") := by decide +kernel) (hg : Gl X "isinstance" := by rfl) (hgx : Gl X x := by rfl)
    (hd : (x == ("__debug__" : Str)) = false := by decide)
    (he : starEach [e, .Name x xp] X.env = (false, eval e X.env) :: starEach [.Name x xp] X.env := by rfl) (he2 : starEach [.Name x xp] X.env = (false, eval (.Name x xp) X.env) :: starEach [] X.env := by rfl) (hpl : (backTo pos (starEach [.Name x xp] X.env)).any (·.1) = false := by rfl) :
    PED cs X (.Call (.Name "isinstance" fp) [e, .Name x xp] [] pos) (mIsC c m) := by
  obtain ⟨te, h1, h2⟩ := ha.ex
  refine ⟨_, pe_callB call_isi hg hm hb (L2.pa_cons h1 (L2.pa_cons (pe_glob (v := .ref C) hgx hx rfl hd) L2.pa_nil he2) he) (by decide) (by decide) he hpl, fun ap H0 B0 B σ env H p Q d p' k hmm q => ?_⟩
  obtain ⟨y, p1, e1, e2⟩ := bindM_some hmm
  rcases z : isC c y with _ | b
  · rw [z] at e2; cases e2
  · rw [z] at e2
    cases e2
    refine ta_two h2 k e1 fun B' H' v n hp r => ?_
    obtain ⟨t, t1, t2⟩ := isC_kit I hc n.bh r z
    exact ⟨v, .ref C, t, .ref C, b, rfl, .own C, t1, t2, q B' H' _ n hp (by simp only [Rep])⟩
theorem kit_T2 {K : PySem.W.Frag} {ap : Addr} {B H : Hp} {d : D} {v : V} {T U : String} {b b' : Bool} (I : IsiF K cs) (e : Ex B H) (r : Rep K cs ap B d v) (hb : isT T d = some b) (hb' : isT U d = some b') : ∃ t, TyX K H v t ∧ PySem.W.kitOne K t (.type T) = some b ∧ PySem.W.kitOne K t (.type U) = some b' := by
  rcases ty_of I e r with ⟨n, h1, h2, h3⟩ | ⟨c, ds, C, fn, rfl, h1, h2⟩ | rfl
  · exact ⟨_, h3, isT_kit h1 hb, isT_kit h1 hb'⟩
  · have e1 := isT_ins hb
    have e2 := isT_ins hb'
    subst e1; subst e2
    exact ⟨_, h2, I.b c C fn h1 T (isT_mem hb), I.b c C fn h1 U (isT_mem hb')⟩
  · unfold isT at hb
    split at hb <;> cases hb <;> rename_i h <;> cases h
theorem p_isT2 (T U : String) {x y : Str} {fp xp yp tp : Pos} {kk} (I : IsiF X.K cs) (hm : X.mg "isinstance" = none) (hx : X.mg x = none) (hy : X.mg y = none) (ha : PED cs X e m) (hv : bootBuiltins x = some (.type T) := by decide +kernel) (hw : bootBuiltins y = some (.type U) := by decide +kernel)
    (hb : bootBuiltins "isinstance" = some (.builtin "isinstance") := by decide +kernel) (hg : Gl X "isinstance" := by rfl) (hgx : Gl X x := by rfl) (hgy : Gl X y := by rfl)
    (hn : x ≠ "__name__" := by decide) (hd : (x == ("__debug__" : Str)) = false := by decide) (hn' : y ≠ "__name__" := by decide) (hd' : (y == ("__debug__" : Str)) = false := by decide)
    (he : starEach [e, .Tuple [.Name x xp, .Name y yp] kk tp] X.env = (false, eval e X.env) :: starEach [.Tuple [.Name x xp, .Name y yp] kk tp] X.env := by rfl) (he2 : starEach [.Tuple [.Name x xp, .Name y yp] kk tp] X.env = (false, eval (.Tuple [.Name x xp, .Name y yp] kk tp) X.env) :: starEach [] X.env := by rfl)
    (ht1 : starEach [.Name x xp, .Name y yp] X.env = (false, eval (.Name x xp) X.env) :: starEach [.Name y yp] X.env := by rfl) (ht2 : starEach [.Name y yp] X.env = (false, eval (.Name y yp) X.env) :: starEach [] X.env := by rfl)
    (hpl : (backTo pos (starEach [.Tuple [.Name x xp, .Name y yp] kk tp] X.env)).any (·.1) = false := by rfl) :
    PED cs X (.Call (.Name "isinstance" fp) [e, .Tuple [.Name x xp, .Name y yp] kk tp] [] pos) (mIsT2 T U m) := by
  obtain ⟨te, h1, h2⟩ := ha.ex
  refine ⟨_, pe_callB call_isiT hg hm hb (L2.pa_cons h1 (L2.pa_cons (pe_tup (L2.pa_cons (pe_bltn (v := .ty T) hgx hx hv rfl hn hd) (L2.pa_cons (pe_bltn (v := .ty U) hgy hy hw rfl hn' hd') L2.pa_nil ht2) ht1)) L2.pa_nil he2) he) (by decide) (by decide) he hpl, fun ap H0 B0 B σ env H p Q d p' k hmm q => ?_⟩
  obtain ⟨w, p1, e1, e2⟩ := bindM_some hmm
  rcases z : isT T w with _ | b
  · rw [z] at e2; cases e2
  · rcases z2 : isT U w with _ | b'
    · rw [z, z2] at e2; cases e2
    · rw [z, z2] at e2
      cases e2
      refine h2 ap H0 B0 B σ env H p _ w p' k e1 fun B1 H1 v n hp r => ⟨sz100 (by simp only [List.length_cons, List.length_nil]; omega), fun t ht => ?_⟩
      have n2 : Nxt ap B1 H1 (upd B1 t (.tup [.ty T, .ty U])) (upd H1 t (.tup [.ty T, .ty U])) := Nxt.new n.bh ht
      obtain ⟨t1, g1, g2, g4⟩ := kit_T2 I n2.bh (r.mono n2.bb) z z2
      refine ⟨v, t, [.ty T, .ty U], t1, [.type T, .type U], b || b', rfl, upd_same, .cons (.ty T) (.cons (.ty U) .nil), g1, ?_, q _ _ _ (n.trans n2) (hp.new ht) (by simp only [Rep])⟩
      refine kitAny_cons g2 (fun hb => ?_) (fun hb => by rw [hb]; rfl)
      subst hb
      exact kitAny_cons g4 (fun hb => by subst hb; rfl) (fun hb => by rw [hb]; rfl)
/-! ### is None -/
def dIsN (neg : Bool) : D → D → Mo D := fun x y => match y with
  | .non => match x with
    | .non => retM (.bl (!neg))
    | .pot => failM
    | _ => retM (.bl neg)
  | _ => failM
theorem isN_val {K : PySem.W.Frag} {ap : Addr} {B : Hp} {x : D} {v : V} (r : Rep K cs ap B x v) : decide (v = V.non) = (match x with | .non => true | _ => false) := by
  cases x with
  | non => simp only [Rep] at r; subst r; simp
  | bl b => simp only [Rep] at r; subst r; simp
  | int b => simp only [Rep] at r; subst r; simp
  | str b => simp only [Rep] at r; subst r; simp
  | lst ds => simp only [Rep] at r; obtain ⟨a, _, rfl, _⟩ := r; simp
  | tup ds => simp only [Rep] at r; obtain ⟨a, _, rfl, _⟩ := r; simp
  | ins c ds => simp only [Rep] at r; obtain ⟨a, _, _, _, _, rfl, _⟩ := r; simp
  | pot => simp only [Rep] at r; subst r; simp
  | ed => simp only [Rep] at r; obtain ⟨a, rfl, _⟩ := r; simp
theorem op_isND : OpD cs X (compareOp .Is) (dIsN false) := by
  refine ⟨_, op_isN, fun ap B H p x y v u Q d p' e hp hb rx ry hm q => ?_⟩
  unfold dIsN at hm
  split at hm
  · simp only [Rep] at ry
    refine ⟨ry, ?_⟩
    rw [isN_val rx]
    cases x <;> first | (cases hm; done) | (cases hm; exact q B H _ (Nxt.refl e) hp (by first | (simp only [Rep]; done) | (simp only [Rep]; rfl)))
  · cases hm
theorem op_notND : OpD cs X (compareOp .IsNot) (dIsN true) := by
  refine ⟨_, op_notN, fun ap B H p x y v u Q d p' e hp hb rx ry hm q => ?_⟩
  unfold dIsN at hm
  split at hm
  · simp only [Rep] at ry
    refine ⟨ry, ?_⟩
    rw [isN_val rx]
    cases x <;> first | (cases hm; done) | (cases hm; exact q B H _ (Nxt.refl e) hp (by first | (simp only [Rep]; done) | (simp only [Rep]; rfl)))
  · cases hm
/-! ### a minus sign -/
def dNegI : D → Mo D := fun x => match x with
  | .int i => retM (.int (-i))
  | _ => failM
theorem p_neg (ha : PED cs X a ma) : PED cs X (.UnaryOp .USub a pos) (mUn dNegI ma) := by
  obtain ⟨ta, a1, a2⟩ := ha.ex
  refine ⟨_, pe_un un_neg a1, fun ap H0 B0 B σ env H p Q d p' k hm q => ?_⟩
  obtain ⟨x, p1, e1, e2⟩ := bindM_some hm
  cases x <;> first | (cases e2; done) | skip
  rename_i i
  cases e2
  refine a2 ap H0 B0 B σ env H p _ _ p' k e1 fun B1 H1 v n1 hp1 r1 => ?_
  simp only [Rep] at r1
  exact ⟨i, r1, q B1 H1 _ n1 hp1 (by simp only [Rep])⟩
/-! ### texts -/
def cStr : List D → Mo D
  | [.int i] => if i.natAbs.log2 < 1920 then retM (.str (toString i)) else failM
  | _ => failM
theorem ca_str : CaD cs X (.type "str") cStr := by
  refine ⟨_, call_str_int, fun ap B H p ds vs Q d p' e hp hb r hm q => ?_⟩
  unfold cStr at hm
  split at hm
  · split at hm
    · rename_i hi
      cases hm
      obtain ⟨v, rfl, rv⟩ := reps1 r
      simp only [Rep] at rv
      exact ⟨_, by rw [rv], hi, q B H _ (Nxt.refl e) hp (by simp only [Rep])⟩
    · cases hm
  · cases hm
def mSlS (a : Env' → Mo D) (lo hi : Env' → Mo (Option Int)) : Env' → Mo D := fun env => bindM (a env) fun x => bindM (lo env) fun l => bindM (hi env) fun h => match x with
  | .str z => if z.length ≤ 10000000 then retM (.str (cutS z l h)) else failM
  | _ => failM
theorem str_fits {z : Str} (h : z.length ≤ 10000000) : z.length ≤ sizeLine := Nat.le_trans h (by rw [sizeLine_eq]; decide)
theorem p_slS {lo hi : Option Expr} {p2 : Pos} {ml mh : Env' → Mo (Option Int)} (ha : PED cs X a ma) (hl : POx cs X lo ml) (hh : POx cs X hi mh) : PED cs X (.Subscript a (.Slice lo hi none p2) pos) (mSlS ma ml mh) := by
  obtain ⟨ta, a1, a2⟩ := ha.ex
  obtain ⟨tl, l1, l2⟩ := hl.ex
  obtain ⟨th, u1, u2⟩ := hh.ex
  refine ⟨_, pe_slice sl_str a1 l1 u1, fun ap H0 B0 B σ env H p Q d p' k hm q => ?_⟩
  obtain ⟨x, p1, e1, e2⟩ := bindM_some hm
  obtain ⟨l, p2, e3, e4⟩ := bindM_some e2
  obtain ⟨u, p3, e5, e6⟩ := bindM_some e4
  split at e6
  · rename_i z
    split at e6
    · rename_i hz
      cases e6
      refine a2 ap H0 B0 B σ env H p _ _ p1 k e1 fun B1 H1 v n1 hp1 r1 => ?_
      have k1 := k.nxt n1 hp1
      refine l2 ap H0 B0 B1 σ env H1 p1 _ _ p2 k1 e3 fun B2 H2 n2 hp2 => ?_
      have k2 := k1.nxt n2 hp2
      refine u2 ap H0 B0 B2 σ env H2 p2 _ _ p' k2 e5 fun B3 H3 n3 hp3 => ?_
      simp only [Rep] at r1
      exact ⟨z, r1, str_fits hz, q B3 H3 _ ((n1.trans n2).trans n3) hp3 (by simp only [Rep])⟩
    · cases e6
  · cases e6
/-! ### f-strings -/
def mFmt (a : Env' → Mo D) : Env' → Mo D := fun env => bindM (a env) fun x => match x with
  | .str y => if y.length ≤ 10000000 then retM (.str y) else failM
  | .int i => if i.natAbs.log2 < 1920 then retM (.str (toString i)) else failM
  | _ => failM
theorem p_fmt (ha : PED cs X a ma) : PED cs X (.FormattedValue a (-1) none pos) (mFmt ma) := by
  obtain ⟨ta, a1, a2⟩ := ha.ex
  refine ⟨_, pe_fmt a1, fun ap H0 B0 B σ env H p Q d p' k hm q => ?_⟩
  obtain ⟨x, p1, e1, e2⟩ := bindM_some hm
  split at e2
  · rename_i y
    split at e2
    · rename_i hz
      cases e2
      refine a2 ap H0 B0 B σ env H p _ _ p' k e1 fun B1 H1 v n1 hp1 r1 => ?_
      simp only [Rep] at r1
      exact .inl ⟨y, r1, str_fits hz, q B1 H1 _ n1 hp1 (by simp only [Rep])⟩
    · cases e2
  · rename_i i
    split at e2
    · rename_i hz
      cases e2
      refine a2 ap H0 B0 B σ env H p _ _ p' k e1 fun B1 H1 v n1 hp1 r1 => ?_
      simp only [Rep] at r1
      exact .inr ⟨i, r1, hz, q B1 H1 _ n1 hp1 (by simp only [Rep])⟩
    · cases e2
  · cases e2
def mJoin : List (Env' → Mo D) → Str → Env' → Mo Str
  | [], acc, _ => retM acc
  | m :: ms, acc, env => bindM (m env) fun x => match x with
    | .str y => if (acc ++ y).length ≤ 10000000 then mJoin ms (acc ++ y) env else failM
    | _ => failM
def mJs (ms : List (Env' → Mo D)) : Env' → Mo D := fun env => bindM (mJoin ms Str.empty env) fun t => retM (.str t)
inductive EvJs (K : PySem.W.Frag) (cs : CT) : List TE → List (Env' → Mo D) → Prop where
  | nil : EvJs K cs [] []
  | cons {t : TE} {m : Env' → Mo D} {ts : List TE} {ms : List (Env' → Mo D)} (h : EvE K cs t m) (r : EvJs K cs ts ms) : EvJs K cs (t :: ts) (m :: ms)
structure PJs (cs : CT) (X : Cx) (es : List Expr) (ms : List (Env' → Mo D)) : Prop where
  ex : ∃ ts, PJ X es ts ∧ EvJs X.K cs ts ms
theorem js_nil : PJs cs X [] [] := ⟨[], .nil, .nil⟩
theorem js_cons {ms : List (Env' → Mo D)} (ha : PED cs X a ma) (hr : PJs cs X es ms) : PJs cs X (a :: es) (ma :: ms) := by
  obtain ⟨ta, a1, a2⟩ := ha.ex
  obtain ⟨ts, t1, t2⟩ := hr.ex
  exact ⟨ta :: ts, .cons a1 t1, .cons a2 t2⟩
theorem js_ev {K : PySem.W.Frag} {ts : List TE} {ms : List (Env' → Mo D)} (h : EvJs K cs ts ms) : ∀ ap H0 B0 B σ env H p acc (Q : Str → Hp → Prop) t p', Ok K cs ap H0 B0 B σ env H p → mJoin ms acc env p = some (t, p') → (∀ B' H', Nxt ap B H B' H' → PotAt ap H' p' → Q t H') → tJs ts acc σ H Q := by
  induction h with
  | nil =>
    intro ap H0 B0 B σ env H p acc Q t p' k hm q
    cases hm
    exact q B H (Nxt.refl k.bh) k.pot
  | @cons te m ts ms h r ih =>
    intro ap H0 B0 B σ env H p acc Q t p' k hm q
    obtain ⟨x, p1, e1, e2⟩ := bindM_some (m := m env) hm
    split at e2
    · rename_i y
      split at e2
      · rename_i hz
        refine h ap H0 B0 B σ env H p _ _ p1 k e1 fun B1 H1 v n1 hp1 r1 => ?_
        simp only [Rep] at r1
        exact ⟨y, r1, str_fits hz, ih ap H0 B0 B1 σ env H1 p1 (acc ++ y) Q t p' (k.nxt n1 hp1) e2 fun B2 H2 n2 hp2 => q B2 H2 (n1.trans n2) hp2⟩
      · cases e2
    · cases e2
theorem p_js {v1 v2 : Expr} {rest : List Expr} {ms : List (Env' → Mo D)} (h : PJs cs X (v1 :: v2 :: rest) ms) : PED cs X (.JoinedStr (v1 :: v2 :: rest) pos) (mJs ms) := by
  obtain ⟨ts, t1, t2⟩ := h.ex
  refine ⟨_, pe_joined t1, fun ap H0 B0 B σ env H p Q d p' k hm q => ?_⟩
  obtain ⟨t, p1, e1, e2⟩ := bindM_some hm
  cases e2
  exact js_ev t2 ap H0 B0 B σ env H p Str.empty _ t p' k e1 fun B' H' n hp => q B' H' _ n hp (by simp only [Rep])
theorem p_js1 (ha : PED cs X a ma) : PED cs X (.JoinedStr [a] pos) ma := by
  obtain ⟨ta, a1, a2⟩ := ha.ex
  exact ⟨_, pe_joined1 a1, a2⟩
/-! ### lists unpacked -/
def tgLst (n : Nat) (b : MGs) : MG := fun d env => match d with
  | .lst ds => if ds.length = n then b ds env else none
  | _ => none
theorem lst_ev {K : PySem.W.Frag} {n : Nat} {g : TGs} {b : MGs} {sl : List Nat} (h : EvGs K cs g sl b) : EvG K cs (gLst K n g) sl (tgLst n b) := by
  intro ap H0 B0 B σ env H p Q d v env' k r hm q
  unfold tgLst at hm
  split at hm
  · split at hm
    · rename_i ds hl
      simp only [Rep] at r
      obtain ⟨a, xs, rfl, h1, h2⟩ := r
      exact ⟨a, xs, rfl, SqL.of (k.bh _ _ h1), by rw [h2.length]; exact hl, h ap H0 B0 B σ env H p Q ds xs env' k h2 hm q⟩
    · cases hm
  · cases hm
theorem g_lst {es : List Expr} {kk n : Nat} {b : MGs} {sl : List Nat} (hc : X.calm = true) (h : PGsD cs X es sl b) (hn : (assignEach es X.env).length = n := by rfl) (hst : (assignEach es X.env).findIdx? (·.1) = none := by rfl) : PGD cs X (.Tuple es kk pos) sl (tgLst n b) := by
  obtain ⟨g, g1, g2⟩ := h.ex
  exact ⟨_, pg_lst hc g1 hn hst, lst_ev g2⟩
/-! ### lcm, divmod -/
def cLcm : List D → Mo D
  | [.int i, .int j] => if i.natAbs < bigN ∧ j.natAbs < bigN then retM (.int ((Nat.lcm i.natAbs j.natAbs : Nat) : Int)) else failM
  | _ => failM
theorem lcm_le {a b : Nat} : Nat.lcm a b ≤ a * b := Nat.div_le_self _ _
theorem ca_lcm : CaD cs X (.builtin "math.lcm") cLcm := by
  refine ⟨fun vs H Q => ∃ i j : Int, vs = [.int i, .int j] ∧ i.natAbs < bigN ∧ j.natAbs < bigN ∧ Q (.int ((Nat.lcm i.natAbs j.natAbs : Nat) : Int)) H, ?_, fun ap B H p ds vs Q d p' e hp hb r hm q => ?_⟩
  · intro pins s σ H vs us Q I r h
    obtain ⟨i, j, rfl, hi, hj, q⟩ := h
    obtain ⟨t, u, rfl⟩ := Vals.int2 r
    have h1 : (max 1 i.natAbs).log2 ≤ 4399 := PySem.W.mg_log (by
      have : 1 < 2 ^ (4399 + 1) := by decide +kernel
      show max 1 i.natAbs < 2 ^ (4399 + 1)
      rw [Nat.max_lt]
      exact ⟨this, hi⟩)
    have h2 : (max i.natAbs j.natAbs).log2 ≤ 4399 := PySem.W.mg_log (by
      show max i.natAbs j.natAbs < 2 ^ (4399 + 1)
      rw [Nat.max_lt]
      exact ⟨hi, hj⟩)
    have g := PySem.W.mg_run_lcm i t j u (by omega) (by omega) (by
      rw [Nat.lcm_one_left, Int.natAbs_natCast]
      have h3 : Nat.lcm i.natAbs j.natAbs < 2 ^ (8799 + 1) := by
        refine Nat.lt_of_le_of_lt lcm_le (Nat.lt_of_lt_of_le (Nat.mul_lt_mul'' hi hj) ?_)
        unfold bigN
        rw [← Nat.pow_add]
        exact Nat.le_refl _
      have h4 := PySem.W.mg_log h3
      exact Nat.lt_of_le_of_lt h4 (by decide +kernel))
    rw [Nat.lcm_one_left] at g
    exact call_function_meets PySem.W.MGF.kind_lcm PySem.W.MGF.plain_lcm PySem.W.MGF.entry_lcm (PySem.W.MGF.args_lcm _ _) g.meets ⟨.int _, H, I.tok _, ⟨_, rfl⟩, q⟩
  · unfold cLcm at hm
    split at hm
    · split at hm
      · rename_i hz
        cases hm
        obtain ⟨v, w, rfl, rv, rw'⟩ := reps2 r
        simp only [Rep] at rv rw'
        exact ⟨_, _, by rw [rv, rw'], hz.1, hz.2, q B H _ (Nxt.refl e) hp (by simp only [Rep])⟩
      · cases hm
    · cases hm
end
end DL
end

section
set_option Elab.async false
set_option linter.all false
set_option maxRecDepth 100000
set_option maxHeartbeats 4000000
/-! DL: the drawing pot. -/
namespace DL
open PySem PySem.Spec PyProof.Rows L2
open Evl (Ex)
section
variable {K : PySem.W.Frag} {cs : CT} {ap : Addr} {H0 B0 B H : Hp} {σ : L2.St} {env : Env'} {p : Pt}
theorem Ok.potset (k : Ok K cs ap H0 B0 B σ env H p) (p' : Pt) : Ok K cs ap H0 B0 B σ env (upd H ap (.lst [.int p'.1, .int p'.2])) p' := by
  refine k.nxt ⟨Ex.refl _, fun a o h => ?_, fun a _ h => h, fun a o h ha => ?_, fun a h => ?_⟩ upd_same
  · have e : a ≠ ap := fun z => by rw [z, k.bap] at h; cases h
    rw [upd_ne e]; exact k.bh _ _ h
  · rw [upd_ne ha]; exact h
  · by_cases e : a = ap
    · subst e; rw [upd_same]; exact fun z => nomatch z
    · rw [upd_ne e]; exact h
end
def mPot (i : Nat) (k : Bool) : Env' → Mo D := fun env p => match env[i]? with
  | some (.val .pot) => some (.int (if k = true then p.2 else p.1), p)
  | _ => none
def mSetPot (i : Nat) (k : Bool) (m : Env' → Mo D) : MS := fun env => bindM (m env) fun d p => match d with
  | .int n => match env[i]? with
    | some (.val .pot) => some ((.nx, env), if k = true then (p.1, n) else (n, p.2))
    | _ => none
  | _ => none
def mPotDiv (i j : Nat) (m : Env' → Mo D) : MS := fun env => bindM (m env) fun d p => match d with
  | .tup [.int q, e] => match env[i]? with
    | some (.val .pot) => some ((.nx, env.set j (.val e)), (q, p.2))
    | _ => none
  | _ => none
section
variable {cs : CT} {X : Cx} {e a b : Expr} {es : List Expr} {m ma mb : Env' → Mo D} {pos : Pos}
theorem pot_slot {K : PySem.W.Frag} {ap : Addr} {H0 B0 B : Hp} {σ : L2.St} {env : Env'} {H : Hp} {p : Pt} (k : Ok K cs ap H0 B0 B σ env H p) {i : Nat} (g : env[i]? = some (.val .pot)) : σ[i]? = some (some (.ref ap)) := by
  obtain ⟨v, h1, h2⟩ := k.sl i _ g
  simp only [Rep] at h2
  rw [h1, h2]
theorem p_potIx (i : Nat) (kb : Bool) {n : Int} {x : Str} {p1 p2 : Pos} {kk} (hk : n = (if kb = true then 1 else 0) := by rfl) (hN : X.N[i]? = some x := by rfl) (hv : Vis X.env.scope x := by first | exact Or.inl rfl | exact Or.inr (Or.inl rfl) | exact Or.inr (Or.inr rfl)) (hd : (x == ("__debug__" : Str)) = false := by decide)
    (hcd : (x == ("__classdict__" : Str)) = false := by decide) (hs : PlainIx (.Constant (.int n) kk p2) := by exact fun _ _ => rfl) : PED cs X (.Subscript (.Name x p1) (.Constant (.int n) kk p2) pos) (mPot i kb) := by
  refine ⟨_, pe_ix ix_seq (pe_var hN hv hd hcd) pe_int hs, fun ap H0 B0 B σ env H p Q d p' k hm q => ?_⟩
  unfold mPot at hm
  rcases g : env[i]? with _ | _ | d' | _ | _
  · rw [g] at hm; cases hm
  · rw [g] at hm; cases hm
  · rw [g] at hm
    cases d' <;> first | (cases hm; done) | skip
    cases hm
    refine ⟨.ref ap, pot_slot k g, .inl ⟨ap, _, n, .int (if kb = true then p.2 else p.1), rfl, rfl, SqL.of k.pot, ?_, q B H _ (Nxt.refl k.bh) k.pot (by simp only [Rep])⟩⟩
    subst hk
    cases kb <;> rfl
  · rw [g] at hm; cases hm
  · rw [g] at hm; cases hm
theorem s_setPot (i : Nat) (kb : Bool) {n : Int} {x : Str} {p1 p2 tpos : Pos} {kk} (h : PED cs X e m) (hk : n = (if kb = true then 1 else 0) := by rfl) (hN : X.N[i]? = some x := by rfl) (hv : Vis X.env.scope x := by first | exact Or.inl rfl | exact Or.inr (Or.inl rfl) | exact Or.inr (Or.inr rfl)) (hd : (x == ("__debug__" : Str)) = false := by decide)
    (hcd : (x == ("__classdict__" : Str)) = false := by decide)
    (ha : ∀ v, assign (.Subscript (.Name x p1) (.Constant (.int n) kk p2) tpos) X.env v = (do
      let ov ← holding [v] (eval (.Name x p1) X.env)
      let iv ← holding [v, ov] (eval (.Constant (.int n) kk p2) X.env)
      standAt tpos
      holding [v, ov, iv] (setItem ov iv v)
      release [v, ov, iv] []) := by intro _; rfl)
    (hs : swapsWithSole [.Subscript (.Name x p1) (.Constant (.int n) kk p2) tpos] e pos.line X.env = pure false := by rfl) (hw : swappedStores [.Subscript (.Name x p1) (.Constant (.int n) kk p2) tpos] e X.env = pure none := by rfl)
    (h1 : (assignEach [.Subscript (.Name x p1) (.Constant (.int n) kk p2) tpos] X.env).map (·.2) = [assign (.Subscript (.Name x p1) (.Constant (.int n) kk p2) tpos) X.env] := by rfl) :
    PSD cs X (.Assign [.Subscript (.Name x p1) (.Constant (.int n) kk p2) tpos] e pos) (mSetPot i kb m) := by
  obtain ⟨te, a1, a2⟩ := h.ex
  refine ⟨_, ps_asg a1 (pg_sub (pe_var hN hv hd hcd) pe_int set_list ha) hs hw h1, fun ap H0 B0 B σ env H p E o env' p' k hm q => ?_⟩
  obtain ⟨d, p1, e1, e2⟩ := bindM_some hm
  cases d <;> first | (cases e2; done) | skip
  rename_i nn
  dsimp only at e2
  rcases g : env[i]? with _ | _ | d' | _ | _
  · rw [g] at e2; cases e2
  · rw [g] at e2; cases e2
  · rw [g] at e2
    cases d' <;> first | (cases e2; done) | skip
    cases e2
    refine a2 ap H0 B0 B σ env H p _ _ p1 k e1 fun B1 H1 v n1 hp1 r1 => ?_
    have k1 := k.nxt n1 hp1
    simp only [Rep] at r1
    subst r1
    have fin := q B1 σ _ n1.bb (k1.potset (if kb = true then (p1.1, nn) else (nn, p1.2)))
    refine ⟨.ref ap, pot_slot k1 g, ap, _, n, (if kb = true then 1 else 0), rfl, rfl, hp1, ?_, ?_⟩
    · subst hk
      cases kb <;> rfl
    · cases kb <;> exact fin
  · rw [g] at e2; cases e2
  · rw [g] at e2; cases e2
theorem s_potDiv (i j : Nat) {x y : Str} {p1 p2 tpos py tp : Pos} {kk kt} (hc : X.calm = true) (hNd : X.N.Nodup) (h : PED cs X e m) (hN : X.N[i]? = some x := by rfl) (hv : Vis X.env.scope x := by first | exact Or.inl rfl | exact Or.inr (Or.inl rfl) | exact Or.inr (Or.inr rfl)) (hd : (x == ("__debug__" : Str)) = false := by decide)
    (hcd : (x == ("__classdict__" : Str)) = false := by decide)
    (ha : ∀ v, assign (.Subscript (.Name x p1) (.Constant (.int 0) kk p2) tpos) X.env v = (do
      let ov ← holding [v] (eval (.Name x p1) X.env)
      let iv ← holding [v, ov] (eval (.Constant (.int 0) kk p2) X.env)
      standAt tpos
      holding [v, ov, iv] (setItem ov iv v)
      release [v, ov, iv] []) := by intro _; rfl)
    (hj : X.N[j]? = some y := by rfl) (hy : Loc X.env.scope y := by first | exact Or.inl rfl | exact Or.inr rfl) (hf : X.fn y = true ∨ X.env.scope.names.lookup y = some .local := by first | exact .inl rfl | exact .inr rfl)
    (hg1 : (assignEach [.Subscript (.Name x p1) (.Constant (.int 0) kk p2) tpos, .Name y py] X.env).map (·.2) = assign (.Subscript (.Name x p1) (.Constant (.int 0) kk p2) tpos) X.env :: (assignEach [.Name y py] X.env).map (·.2) := by rfl)
    (hg2 : (assignEach [.Name y py] X.env).map (·.2) = assign (.Name y py) X.env :: (assignEach [] X.env).map (·.2) := by rfl)
    (hn : (assignEach [.Subscript (.Name x p1) (.Constant (.int 0) kk p2) tpos, .Name y py] X.env).length = 2 := by rfl) (hst : (assignEach [.Subscript (.Name x p1) (.Constant (.int 0) kk p2) tpos, .Name y py] X.env).findIdx? (·.1) = none := by rfl)
    (hs : swapsWithSole [.Tuple [.Subscript (.Name x p1) (.Constant (.int 0) kk p2) tpos, .Name y py] kt tp] e pos.line X.env = pure false := by rfl) (hw : swappedStores [.Tuple [.Subscript (.Name x p1) (.Constant (.int 0) kk p2) tpos, .Name y py] kt tp] e X.env = pure none := by rfl)
    (h1 : (assignEach [.Tuple [.Subscript (.Name x p1) (.Constant (.int 0) kk p2) tpos, .Name y py] kt tp] X.env).map (·.2) = [assign (.Tuple [.Subscript (.Name x p1) (.Constant (.int 0) kk p2) tpos, .Name y py] kt tp) X.env] := by rfl) :
    PSD cs X (.Assign [.Tuple [.Subscript (.Name x p1) (.Constant (.int 0) kk p2) tpos, .Name y py] kt tp] e pos) (mPotDiv i j m) := by
  obtain ⟨te, a1, a2⟩ := h.ex
  refine ⟨_, ps_asg a1 (pg_tup hc (pgs_cons (pg_sub (pe_var hN hv hd hcd) pe_int set_list ha) (pgs_cons (pg_name hNd hj hy hf) pgs_nil hg2) hg1) hn hst) hs hw h1, fun ap H0 B0 B σ env H p E o env' p' k hm q => ?_⟩
  obtain ⟨d, p1, e1, e2⟩ := bindM_some hm
  split at e2
  · rename_i qq ee
    rcases g : env[i]? with _ | _ | d' | _ | _
    · rw [g] at e2; cases e2
    · rw [g] at e2; cases e2
    · rw [g] at e2
      cases d' <;> first | (cases e2; done) | skip
      cases e2
      refine a2 ap H0 B0 B σ env H p _ _ p1 k e1 fun B1 H1 v n1 hp1 r1 => ?_
      have k1 := k.nxt n1 hp1
      simp only [Rep] at r1
      obtain ⟨t, xs, rfl, h3, rr⟩ := r1
      obtain ⟨v1, v2, rfl, r1, r2⟩ := reps2 rr
      simp only [Rep] at r1
      subst r1
      refine ⟨t, _, rfl, Evl.ex_t n1.bh h3, rfl, _, _, rfl, ⟨.ref ap, pot_slot k1 g, ap, _, 0, 0, rfl, rfl, hp1, rfl, ?_⟩⟩
      have k2 := k1.potset (qq, p1.2)
      exact ⟨_, _, rfl, rfl, q B1 _ _ n1.bb (k2.setv' r2)⟩
    · rw [g] at e2; cases e2
    · rw [g] at e2; cases e2
  · cases e2
def cDivmod : List D → Mo D
  | [.int i, .int j] => if 0 < j ∧ j < 2 ^ 64 then retM (.tup [.int (i / j), .int (i % j)]) else failM
  | _ => failM
theorem ca_divmod : CaD cs X (.builtin "divmod") cDivmod := by
  refine ⟨_, call_divmodW, fun ap B H p ds vs Q d p' e hp hb r hm q => ?_⟩
  unfold cDivmod at hm
  split at hm
  · split at hm
    · rename_i i j hz
      cases hm
      obtain ⟨v, w, rfl, rv, rw'⟩ := reps2 r
      simp only [Rep] at rv rw'
      have hl : j.natAbs.log2 < 9000 := Nat.lt_of_le_of_lt (PySem.W.mg_log (k := 63) (by have := hz.2; have := hz.1; omega)) (by decide)
      exact ⟨i, j, by rw [rv, rw'], ⟨hz.1, PyProof.noPylong_of_log2 hl⟩, q.newT e hp (reps_cons (by simp only [Rep]) (reps_cons (by simp only [Rep]) reps_nil))⟩
    · cases hm
  · cases hm
end
end DL
end

section
set_option Elab.async false
set_option linter.all false
set_option maxRecDepth 100000
set_option maxHeartbeats 4000000
/-! DL: __init__. -/
namespace DL
open PySem PySem.Spec PyProof.Rows L2
open Evl (Ex)
/-- self.f = e, the next attribute -/
def mFldSet (i : Nat) (m : Env' → Mo D) : MS := fun env => bindM (m env) fun d => match env[i]? with
  | some (.mk c ds) => retM (.nx, env.set i (.mk c (ds ++ [d])))
  | _ => failM
theorem putF_new {f : Str} {v : V} : ∀ {fs : List (Str × V)}, f ∉ fs.map (·.1) → putF f v fs = fs ++ [(f, v)]
  | [], _ => rfl
  | (g, x) :: r, h => by
    rw [List.map_cons, List.mem_cons, not_or] at h
    unfold putF
    rw [if_neg (fun z => h.1 z.symm), putF_new h.2]
    rfl
section
variable {cs : CT} {X : Cx} {e a b : Expr} {es : List Expr} {m ma mb : Env' → Mo D} {pos : Pos} {C f : Addr} {fn : List Str} {c k : Nat} {fd : FuncData} {ps : List Str} {g : Bool} {fm : List D → Mo D}
/-- which attribute comes next: said by the length -/
def mFldAt (c i n : Nat) (m : Env' → Mo D) : MS := fun env => match env[i]? with
  | some (.mk c' ds) => if c' = c ∧ ds.length = n then mFldSet i m env else failM
  | _ => failM
theorem s_fld (i n : Nat) {x : Str} {fl : Str} {p1 apos : Pos} (T : ClsAt X.K cs c C fn) (hna : NoAttr X.K C fl) (h : PED cs X e m) (hfl : fn[n]? = some fl := by rfl) (hn1 : fn.length < 1000 := by decide)
    (hN : X.N[i]? = some x := by rfl) (hv : Vis X.env.scope x := by first | exact Or.inl rfl | exact Or.inr (Or.inl rfl) | exact Or.inr (Or.inr rfl)) (hd : (x == ("__debug__" : Str)) = false := by decide) (hcd : (x == ("__classdict__" : Str)) = false := by decide)
    (hs : swapsWith e (some (.Attribute (.Name x p1) fl apos)) pos.line X.env = pure false := by rfl) :
    PSD cs X (.Assign [.Attribute (.Name x p1) fl apos] e pos) (mFldAt c i n m) := by
  obtain ⟨te, h1, h2⟩ := h.ex
  refine ⟨_, ps_fld (pe_var hN hv hd hcd) h1 hs, fun ap H0 B0 B σ env H p E o env' p' k hm q => ?_⟩
  unfold mFldAt at hm
  rcases g : env[i]? with _ | _ | d' | _ | ⟨c', ds⟩
  · rw [g] at hm; cases hm
  · rw [g] at hm; cases hm
  · rw [g] at hm; cases hm
  · rw [g] at hm; cases hm
  · rw [g] at hm
    dsimp only at hm
    split at hm
    case isFalse => cases hm
    rename_i hc
    obtain ⟨hc, hl⟩ := hc
    subst hc
    obtain ⟨d, p1, e1, e2⟩ := bindM_some hm
    rw [g] at e2
    cases e2
    obtain ⟨a', C', fn', dx, fs, g1, g2, g3, g4, g5, g6, g7⟩ := k.sl i _ g
    rw [T.at_] at g2
    cases g2
    have nap : a' ≠ ap := fun z => k.hap (z ▸ k.prvNew i _ a' g rfl g1)
    refine h2 ap H0 B0 B σ env H p _ d p' k e1 fun B1 H1 v n1 hp1 r1 => ?_
    have k1 := k.nxt n1 hp1
    have h4 : H1 a' = some (.ins C dx fs) := n1.fr _ _ g4 nap
    have hnd : fl ∉ fs.map (·.1) := fun z => by
      rw [g5, hl] at z
      obtain ⟨j, hj, hz⟩ := List.mem_iff_getElem.mp z
      rw [List.getElem_take] at hz
      have hjn : j < n := by rw [List.length_take] at hj; omega
      have e3 := T.nd
      have e4 := (List.getElem?_eq_some_iff.mp hfl)
      obtain ⟨e5, e6⟩ := e4
      exact (List.pairwise_iff_getElem.mp e3) j n (by omega) e5 hjn (hz.trans e6.symm)
    refine ⟨.ref a', g1, a', C, dx, fs, rfl, h4, T.cl, hna, ?_, ?_⟩
    · rw [g6, hl]
      have := (List.getElem?_eq_some_iff.mp hfl).1
      omega
    · refine q B1 σ _ n1.bb (k1.mutp g rfl g1 (n1.nw _ (by rw [g4]; exact (fun z => nomatch z)) g3) rfl ?_ ?_)
      · rw [putF_new hnd]
        refine ⟨a', C, fn, dx, fs ++ [(fl, v)], rfl, T.at_, n1.nw _ (by rw [g4]; exact (fun z => nomatch z)) g3, upd_same, ?_, ?_, ?_⟩
        · rw [List.map_append, g5, List.length_append, hl]
          show fn.take n ++ [fl] = fn.take (n + 1)
          rw [List.take_add_one, hfl]; rfl
        · rw [List.length_append, List.length_append, g6]; rfl
        · rw [List.map_append]
          exact (g7.mono n1.bb).append (reps_cons r1 reps_nil)
      · exact fun _ _ _ => ⟨_, _, rfl⟩
/-- self.f, self being made -/
def mFldMk (c i n : Nat) : Env' → Mo D := fun env => match env[i]? with
  | some (.mk c' ds) => if c' = c then match ds[n]? with
      | some d => retM d
      | none => failM
    else failM
  | _ => failM
theorem p_fldMk (i n : Nat) {x fl : Str} {p1 : Pos} (T : ClsAt X.K cs c C fn) (hna : NoAttr X.K C fl) (hfl : fn[n]? = some fl := by rfl) (hN : X.N[i]? = some x := by rfl) (hv : Vis X.env.scope x := by first | exact Or.inl rfl | exact Or.inr (Or.inl rfl) | exact Or.inr (Or.inr rfl)) (hd : (x == ("__debug__" : Str)) = false := by decide)
    (hcd : (x == ("__classdict__" : Str)) = false := by decide) (hb : attributeBase (.Name x p1) fl X.env (eval (.Name x p1) X.env) = eval (.Name x p1) X.env := by rfl) : PED cs X (.Attribute (.Name x p1) fl pos) (mFldMk c i n) := by
  refine ⟨_, pe_fld (pe_var hN hv hd hcd) hb, fun ap H0 B0 B σ env H p Q d p' k hm q => ?_⟩
  unfold mFldMk at hm
  rcases g : env[i]? with _ | _ | d' | _ | ⟨c', ds⟩
  · rw [g] at hm; cases hm
  · rw [g] at hm; cases hm
  · rw [g] at hm; cases hm
  · rw [g] at hm; cases hm
  · rw [g] at hm
    dsimp only at hm
    split at hm
    case isFalse => cases hm
    rename_i hc
    subst hc
    rcases z : ds[n]? with _ | d2
    · rw [z] at hm; cases hm
    · rw [z] at hm
      cases hm
      obtain ⟨a', C', fn', dx, fs, g1, g2, g3, g4, g5, g6, g7⟩ := k.sl i _ g
      rw [T.at_] at g2
      cases g2
      obtain ⟨v, hv1, hv2⟩ := g7.get z
      refine ⟨.ref a', g1, a', C, dx, fs, v, rfl, g4, T.cl, hna, lookup_at (by rw [g5]; exact List.Nodup.sublist (List.take_sublist _ _) T.nd) (i := n) ?_ hv1, q B H v (Nxt.refl k.bh) k.pot hv2⟩
      rw [g5, List.getElem?_take, if_pos (List.getElem?_eq_some_iff.mp z).1]
      exact hfl
end
/-- the slots at an __init__'s entry -/
def envI (n c : Nat) (ds : List D) : Env' := .mk c [] :: (ds.map .val ++ List.replicate (n - (ds.length + 1)) .un)
/-- what an __init__ makes -/
def runI (n c nf : Nat) (m : MS) : List D → Mo D := fun ds => bindM (m (envI n c ds)) fun (r : Out × Env') => match r.1 with
  | .nx => match (r.2[0]? : Option SV) with
    | some (.mk c' fs) => if c' = c ∧ fs.length = nf then retM (.ins c fs) else failM
    | _ => failM
  | _ => failM
theorem ok_startI {K : PySem.W.Frag} {cs : CT} {ap : Addr} {B H : Hp} {N : List Str} {c : Nat} {C x dx : Addr} {fn : List Str} {ds : List D} {vs : List V} {p : Pt} (hc : cs c = some (C, fn)) (e : Ex B H) (hp : PotAt ap H p) (hb : B ap = none) (r : Reps K cs ap B ds vs) (hx : H x = none) (hdx : H dx = none) (hne : dx ≠ x) :
    Ok K cs ap (upd H ap (.own x)) B B (L2.start N (.ref x :: vs)) (envI N.length c ds) (upd (upd H dx (.own x)) x (.ins C dx [])) p := by
  have n1 : Nxt ap B H B (upd H dx (.own x)) := Nxt.newU e hdx
  have hx1 : (upd H dx (.own x)) x = none := by rw [upd_ne (fun z => hne z.symm)]; exact hx
  have n2' : Nxt ap B H B (upd (upd H dx (.own x)) x (.ins C dx [])) := n1.trans (Nxt.newU n1.bh hx1)
  have n2 : Nxt ap B (upd H ap (.own x)) B (upd (upd H dx (.own x)) x (.ins C dx [])) := by
    refine ⟨n2'.bb, n2'.bh, fun a _ h => h, fun a o h ha => ?_, fun a h => ?_⟩
    · rw [upd_ne ha] at h; exact n2'.fr a o h ha
    · by_cases z : a = ap
      · subst z; exact n2'.nn _ (by rw [show H a = _ from hp]; exact (fun z => nomatch z))
      · rw [upd_ne z] at h; exact n2'.nn a h
  have hl := r.length
  have prv : ∀ (i : Nat) sv, (envI N.length c ds)[i]? = some sv → sv.prv = true → i = 0 := fun i sv h g => by
    unfold envI at h
    cases i with
    | zero => rfl
    | succ i =>
      rw [List.getElem?_cons_succ, List.getElem?_append] at h
      split at h
      · rw [List.getElem?_map] at h
        cases z : ds[i]? with
        | none => rw [z] at h; cases h
        | some d => rw [z] at h; cases h; cases g
      · rw [List.getElem?_replicate] at h
        split at h
        · cases h; cases g
        · cases h
  have xap : x ≠ ap := fun z => by rw [z] at hx; rw [show H ap = _ from hp] at hx; cases hx
  refine ⟨n2, (hp.new hdx).new hx1, hb, by rw [upd_same]; exact (fun z => nomatch z), fun i sv h => ?_, fun i sv a h g h' => ?_, fun i j sv sv' a hn h h' g g' _ => ?_, by unfold L2.start envI; simp [hl], fun i c' es a h h' => ?_⟩
  · unfold envI at h
    unfold L2.start
    cases i with
    | zero =>
      cases h
      exact ⟨x, C, fn, dx, [], rfl, hc, Evl.fresh_back e hx, upd_same, rfl, rfl, reps_nil⟩
    | succ i =>
      rw [List.getElem?_cons_succ, List.getElem?_append] at h
      rw [List.map_cons, List.cons_append, List.getElem?_cons_succ]
      split at h
      · rename_i hi
        rw [List.getElem?_map] at h
        cases z : ds[i]? with
        | none => rw [z] at h; cases h
        | some d =>
          rw [z] at h
          cases h
          rw [List.length_map] at hi
          rw [List.getElem?_append_left (by rw [List.length_map]; omega)]
          exact reps_map r z
      · rw [List.getElem?_replicate] at h
        split at h
        · cases h; trivial
        · cases h
  · have := prv i sv h g
    subst this
    unfold L2.start at h'
    cases h'
    rw [upd_ne xap]
    exact hx
  · have h1 := prv i sv h g
    have h2 := prv j sv' h' g'
    omega
  · have := prv i _ h rfl
    subst this
    unfold L2.start at h'
    cases h'
    exact upd_same
/-- THE RULE of an __init__ -/
theorem fn_i {g : Bool} {cs : CT} {P : Program} {w : World} {K : PySem.W.Frag} {mg : Str → Option Value} {base : Heap} {k c : Nat} {C f : Addr} {fn : List Str} {name qual : Str} {params : Arguments} {body : List Stmt} {scope : Scope} {dvs : List V} {kws : List (Str × V)} {fd : FuncData} {N ps : List Str} {m : MS} {n : Nat}
    (T : ClsAt K cs c C fn) (F : FunD K name qual params body scope dvs kws f fd) (S : FnScope N ps scope) (hps : ps.length = n + 1)
    (hbody : ∀ (cdv : Value) (A : Around) (outer : List Env) (s : Shared) (H : Hp) (E : XK), Room k (A.deeper (envOfC qual scope s.heap.objs.size f cdv)) → (g = true → A.guards = some []) →
      PSsD cs (cx0 P w K mg base N qual scope f cdv A outer s H E) body m) : FnD g P w K mg base (k + 1) f fd ps (spMk K cs C n (runI N.length c fn.length m)) := by
  refine fn_enter F S (fun vs H Q E h => ?_) fun cdv A outer s H vs Q E hr hg h => ?_
  · obtain ⟨x, dx, H1, us, rfl, hl, _⟩ := h
    rw [List.length_cons, hl, hps]
  · obtain ⟨x, dx, H1, us, rfl, hl, rfl, hx, hdx, hne, ap, B, ds, p, d, p', e, hp, hb, r, hm, q⟩ := h
    obtain ⟨t, ht, hv⟩ := (hbody cdv A outer s _ E hr hg).ex
    refine ⟨t, ht, ?_⟩
    obtain ⟨⟨o, env'⟩, p1, e1, e2⟩ := bindM_some hm
    refine hv ap (upd H1 ap (.own x)) B B _ _ _ p _ o env' p1 (ok_startI T.at_ e hp hb r hx hdx hne) e1 ?_
    cases o with
    | nx =>
      dsimp only at e2
      rcases g : env'[0]? with _ | _ | d' | _ | ⟨c', fs⟩
      · rw [g] at e2; cases e2
      · rw [g] at e2; cases e2
      · rw [g] at e2; cases e2
      · rw [g] at e2; cases e2
      · rw [g] at e2
        dsimp only at e2
        split at e2
        case isFalse => cases e2
        rename_i hc
        obtain ⟨hc, hlen⟩ := hc
        subst hc
        cases e2
        intro B' σ' H' ex k'
        obtain ⟨a, C', fn', dx', fs', g1, g2, g3, g4, g5, g6, g7⟩ := k'.sl 0 _ g
        have hself := k'.mkAt 0 _ _ a g g1
        rw [upd_same] at hself
        cases hself
        rw [T.at_] at g2
        cases g2
        have nxap : x ≠ ap := fun z => by rw [z] at hx; rw [show H1 ap = _ from hp] at hx; cases hx
        have e1 : Ex B' (upd B' x (.ins C dx' fs')) := Ex.new g3
        have nst := k'.st
        refine q (upd B' x (.ins C dx' fs')) H' ⟨nst.bb.trans e1, fun b u hb => ?_, fun b hb hb' => ?_, fun b u hb hn => ?_, fun b hb => ?_⟩ k'.pot ?_
        · by_cases z : b = x
          · subst z; rw [upd_same] at hb; rw [g4]; exact hb
          · rw [upd_ne z] at hb; exact k'.bh _ _ hb
        · have z : b ≠ x := fun z => hb (z ▸ hx)
          rw [upd_ne z]
          by_cases y : b = ap
          · subst y; exact k'.bap
          · exact nst.nw b (by rw [upd_ne y]; exact hb) hb'
        · exact nst.fr b u (by rw [upd_ne hn]; exact hb) hn
        · by_cases y : b = ap
          · subst y; rw [show H' b = _ from k'.pot]; exact (fun z => nomatch z)
          · exact nst.nn b (by rw [upd_ne y]; exact hb)
        · simp only [Rep]
          refine ⟨x, C, fn, dx', fs', rfl, T.at_, upd_same, ?_, g7.mono e1⟩
          rw [g5, hlen, List.take_length]
    | rt d' => cases e2
    | ro ds' => cases e2
    | bk => cases e2
    | ct => cases e2
end DL
end

section
set_option Elab.async false
set_option linter.all false
set_option maxRecDepth 100000
set_option maxHeartbeats 4000000
/-! DL: the facts of the module, read at the head. -/
namespace DL
open PySem PySem.Spec PyProof.Rows L2
abbrev Fr' := PySem.W.Frag
/-- a def by a path of one's own -/
structure DefZ where
  adr : Fr' → Addr
  name : Str
  qual : Str
  params : Arguments
  body : List Stmt
  scope : Scope
  dfl : List He.Dv := []
def fnZ (K : Fr') (a : Addr) : He.FnW := match K.lookup a with
  | some ⟨_, _, .func fd, _⟩ => some (fd.name, fd.qualname, fd.params, fd.body, fd.scope, fd.globals, fd.closure, fd.builtins)
  | _ => none
def DefZ.val (d : DefZ) : He.FnW := some (d.name, d.qual, d.params, .stmts d.body, d.scope, mainGlobals, [], builtinsNs)
def DefZ.dvs (K : Fr') (d : DefZ) : List V := d.dfl.map (He.Dv.v K)
def DefZ.ok (K : Fr') (d : DefZ) : Bool := PySem.W.keepIn K (.ref (d.adr K)) && (match K.lookup (d.adr K) with
  | some ⟨_, _, .func fd, _⟩ => PySem.W.codeIn K fd.code d.qual && (He.dflB K fd.defaults (d.dvs K) && He.kwdB K fd.kwdefaults [])
  | _ => false)
theorem DefZ.funD {K : Fr'} {d : DefZ} (e : fnZ K (d.adr K) = d.val) (c : d.ok K = true) : ∃ fd, FunD K d.name d.qual d.params d.body d.scope (d.dvs K) [] (d.adr K) fd := by
  obtain ⟨kp, c2⟩ := He.ba c
  unfold fnZ at e
  cases q : K.lookup (d.adr K) with
  | none =>
    rw [q] at c2
    cases c2
  | some o =>
    obtain ⟨oc, od, dt, osl⟩ := o
    rw [q] at c2 e
    cases dt with
    | func fd =>
      obtain ⟨n1, n2, n3, n4, n5, n6, n7, n8, n9, n10, n11, n12, n13, n14, n15⟩ := fd
      have e2 : (some (n1, n2, n3, n4, n5, n6, n7, n15) : He.FnW) = some (d.name, d.qual, d.params, .stmts d.body, d.scope, mainGlobals, [], builtinsNs) := e
      simp only [Option.some.injEq, Prod.mk.injEq] at e2
      obtain ⟨h1, h2, h3, h4, h5, h6, h7, h8⟩ := e2
      subst h1 h2 h3 h4 h5 h6 h7 h8
      have c3 : (PySem.W.codeIn K n13 d.qual && (He.dflB K n8 (d.dvs K) && He.kwdB K n9 [])) = true := c2
      obtain ⟨k1, k2⟩ := He.ba c3
      obtain ⟨k3, k4⟩ := He.ba k2
      exact ⟨_, ⟨oc, od, n8, n9, n10, n11, n12, n13, n14, osl, rfl, q, k1, He.dflB_ok k3, He.kwdB_ok k4⟩, kp⟩
    | _ => cases c2
def obsZ (ex : List (Fr' → Bool)) (fn : List DefZ) (K : Fr') : He.AlD := ((ex.all fun f => f K) && fn.all fun d => d.ok K, fn.map fun d => fnZ K (d.adr K))
def valZ (fn : List DefZ) : He.AlD := (true, fn.map DefZ.val)
def SaysZ (ex : List (Fr' → Bool)) (fn : List DefZ) (K : Fr') : Prop := obsZ ex fn K = valZ fn
def obsZG (n : Nat) (ex : List (Fr' → Bool)) (fn : List DefZ) (g : Addr → Option Obj) : He.AlD := obsZ ex fn (He.frG g (He.asD g n))
def hookZ (n : Nat) (ex : List (Fr' → Bool)) (fn : List DefZ) : PySem.W.Hook where
  α := He.AlD
  obs := fun s => obsZG n ex fn s.heap.get?
  val := fun _ => valZ fn
  says := fun _ h => ∃ K : Fr', K.In h ∧ SaysZ ex fn K
  of := fun _ _ e => ⟨_, He.frG_in, e⟩
  keeps := fun _ _ _ ⟨K, hK, c⟩ k => ⟨K, PySem.W.Frag.In.keeps hK k, c⟩
theorem obsZG_eq {n : Nat} {ex : List (Fr' → Bool)} {fn : List DefZ} {g : Addr → Option Obj} {s : Shared} (h : ∀ a, g a = s.heap.get? a) : obsZG n ex fn g = (hookZ n ex fn).obs s := by
  have e : g = s.heap.get? := funext h
  rw [e] <;> rfl
section
variable {ex : List (Fr' → Bool)} {fn : List DefZ} {K : Fr'}
theorem SaysZ.fact (c : SaysZ ex fn K) (i : Nat) {f : Fr' → Bool} (h : ex[i]? = some f := by rfl) : f K = true := by
  have c1 := (He.ba (show ((ex.all fun f => f K) && fn.all fun d => d.ok K) = true from congrArg (fun z : He.AlD => z.1) c)).1
  exact List.all_eq_true.mp c1 f (List.mem_of_getElem? h)
theorem SaysZ.def_ (c : SaysZ ex fn K) (i : Nat) {d : DefZ} (h : fn[i]? = some d := by rfl) : ∃ fd, FunD K d.name d.qual d.params d.body d.scope (d.dvs K) [] (d.adr K) fd := by
  have c2 := (He.ba (show ((ex.all fun f => f K) && fn.all fun d => d.ok K) = true from congrArg (fun z : He.AlD => z.1) c)).2
  have e : fn.map (fun d => fnZ K (d.adr K)) = fn.map DefZ.val := congrArg (fun z : He.AlD => z.2) c
  have e2 : (fn.map fun d => fnZ K (d.adr K))[i]? = (fn.map DefZ.val)[i]? := by rw [e]
  rw [List.getElem?_map, List.getElem?_map, h] at e2
  exact DefZ.funD (Option.some.inj e2) (List.all_eq_true.mp c2 d (List.mem_of_getElem? h))
end
/-! ### tests of the module -/
def tGlo (x : Str) : Fr' → Bool := fun K => (He.Fa.glo x).ok K
def tFree (x : Str) : Fr' → Bool := fun K => (He.Fa.free x).ok K
def tInt (x : Str) (i : Int) : Fr' → Bool := fun K => (He.Fa.int x i).ok K
def tStr (x z : Str) : Fr' → Bool := fun K => (He.Fa.str x z).ok K
def tCls (x : Str) : Fr' → Bool := fun K => (He.Fa.cls x).ok K
def tNoat (x f : Str) : Fr' → Bool := fun K => (He.Fa.noat x f).ok K
def tMeth (x m : Str) : Fr' → Bool := fun K => (He.Fa.meth x m).ok K
def tMkr (x : Str) : Fr' → Bool := fun K => (He.Fa.mkr x).ok K
def tBi (x : Str) (id : String) : Fr' → Bool := fun K => He.eqO (PySem.W.nsIn K mainGlobals x) (some (some (.builtin id)))
theorem tBi_ok {K : Fr'} {h : Heap} {mg : Str → Option Value} {x : Str} {id : String} (X : K.In h) (G : h.Ns mainGlobals mg) (c : tBi x id K = true) : mg x = some (.builtin id) := PySem.W.mg_of X G (He.eqO_ok c)
def csL (l : List (Addr × List Str)) : CT := fun c => l[c]?
def ob (a : Option Bool) (b : Bool) : Bool := decide (a = some b)
def tyfB (K : Fr') (C : Addr) : Bool := He.eqO (PySem.W.findIn K (.ref C) "__class__") (some (some (.builtin "object.__class__"))) && (He.eqO (PySem.W.specialIn K (.builtin "object.__class__") "__get__") (some (some (.builtin "getset_descriptor.__get__"))) &&
  (ob (PySem.W.takesIn K (.builtin "object.__class__")) true && ob (PySem.W.mroIn K C (.type "object")) true))
def isi1 (K : Fr') (C : Addr) : Bool := tyfB K C && ((["int", "bool", "list", "tuple", "str"].all fun n => ob (PySem.W.kitOne K (.ref C) (.type n)) false) && (tyNames.all fun n => ob (PySem.W.kitOne K (.type n) (.ref C)) false))
def isiB (K : Fr') (l : List (Addr × List Str)) : Bool := (l.all fun p => isi1 K p.1) && ((List.range l.length).all fun i => (List.range l.length).all fun j => match l[i]?, l[j]? with
  | some p, some q => ob (PySem.W.kitOne K (.ref p.1) (.ref q.1)) (i == j)
  | _, _ => true)
theorem isiB_ok {K : Fr'} {l : List (Addr × List Str)} (hc : ∀ p ∈ l, Cls K p.1) (h : isiB K l = true) : IsiF K (csL l) := by
  obtain ⟨h1, h2⟩ := He.ba h
  have one : ∀ c C fn, csL l c = some (C, fn) → isi1 K C = true ∧ Cls K C := fun c C fn e => ⟨List.all_eq_true.mp h1 (C, fn) (List.mem_of_getElem? e), hc (C, fn) (List.mem_of_getElem? e)⟩
  refine ⟨fun c C fn e => ?_, fun c C fn e n hn => ?_, fun c C fn e n hn => ?_, fun c C fn c' C' fn' e e' => ?_⟩
  · obtain ⟨a, cl⟩ := one c C fn e
    obtain ⟨a1, a2⟩ := He.ba a
    obtain ⟨b1, b2⟩ := He.ba a1
    obtain ⟨b3, b4⟩ := He.ba b2
    obtain ⟨b5, b6⟩ := He.ba b4
    exact ⟨cl, He.eqO_ok b1, He.eqO_ok b3, of_decide_eq_true b5, of_decide_eq_true b6⟩
  · obtain ⟨a, cl⟩ := one c C fn e
    obtain ⟨a1, a2⟩ := He.ba a
    exact of_decide_eq_true (List.all_eq_true.mp (He.ba a2).1 n hn)
  · obtain ⟨a, cl⟩ := one c C fn e
    obtain ⟨a1, a2⟩ := He.ba a
    exact of_decide_eq_true (List.all_eq_true.mp (He.ba a2).2 n hn)
  · have hi : c < l.length := (List.getElem?_eq_some_iff.mp e).1
    have hj : c' < l.length := (List.getElem?_eq_some_iff.mp e').1
    have h3 := List.all_eq_true.mp (List.all_eq_true.mp h2 c (List.mem_range.mpr hi)) c' (List.mem_range.mpr hj)
    have g1 : l[c]? = some (C, fn) := e
    have g2 : l[c']? = some (C', fn') := e'
    rw [g1, g2] at h3
    exact of_decide_eq_true h3
def opfB (K : Fr') (C f : Addr) (op : Operator) : Bool := PySem.W.selfFirst K C && (He.eqO (PySem.W.findIn K (.ref C) (PySem.dunder op.info.2)) (some (some (.ref f))) && (PySem.W.isFn K (.ref f) &&
  ((match PySem.W.findIn K (.ref C) (dunderR op.info.2) with
    | some none => true
    | some (some (.ref _)) => true
    | _ => false) && ((PySem.W.findIn K (.type "int") (PySem.dunder op.info.2)).isSome && ((PySem.W.findIn K (.type "int") (dunderR op.info.2)).isSome && ob (PySem.W.subIn K (.type "int") (.ref C)) false)))))
theorem opfB_ok {K : Fr'} {C f : Addr} {op : Operator} (h : opfB K C f op = true) : OpF K C f op := by
  obtain ⟨h1, h⟩ := He.ba h
  obtain ⟨h2, h⟩ := He.ba h
  obtain ⟨h3, h⟩ := He.ba h
  obtain ⟨h4, h⟩ := He.ba h
  obtain ⟨h5, h⟩ := He.ba h
  obtain ⟨h6, h7⟩ := He.ba h
  refine ⟨h1, He.eqO_ok h2, h3, ?_, Option.isSome_iff_exists.mp h5, Option.isSome_iff_exists.mp h6, of_decide_eq_true h7⟩
  rcases z : PySem.W.findIn K (.ref C) (dunderR op.info.2) with _ | _ | v
  · rw [z] at h4; cases h4
  · exact ⟨none, rfl, .inl rfl⟩
  · rw [z] at h4
    cases v <;> first | (cases h4; done) | exact ⟨_, rfl, .inr ⟨_, rfl⟩⟩
/-- a property's getter -/
def proA (K : Fr') (C : Addr) (x : Str) : Addr := match PySem.W.findIn K (.ref C) x with
  | some (some (.ref a)) => a
  | _ => 0
/-- the classes at unlike places -/
def injB (l : List (Addr × List Str)) : Bool := decide (l.map (·.1)).Nodup
theorem injB_ok {l : List (Addr × List Str)} (h : injB l = true) : ∀ c c' C fn fn', csL l c = some (C, fn) → csL l c' = some (C, fn') → c = c' := by
  intro c c' C fn fn' e e'
  have nd : (l.map (·.1)).Nodup := of_decide_eq_true h
  have g1 : l[c]? = some (C, fn) := e
  have g2 : l[c']? = some (C, fn') := e'
  obtain ⟨i1, i2⟩ := List.getElem?_eq_some_iff.mp g1
  obtain ⟨j1, j2⟩ := List.getElem?_eq_some_iff.mp g2
  have pw := List.pairwise_iff_getElem.mp nd
  rcases Nat.lt_trichotomy c c' with z | z | z
  · exact absurd (show (l.map (·.1))[c]'(by rw [List.length_map]; exact i1) = (l.map (·.1))[c']'(by rw [List.length_map]; exact j1) by rw [List.getElem_map, List.getElem_map, i2, j2]) (pw c c' _ _ z)
  · exact z
  · exact absurd (show (l.map (·.1))[c']'(by rw [List.length_map]; exact j1) = (l.map (·.1))[c]'(by rw [List.length_map]; exact i1) by rw [List.getElem_map, List.getElem_map, i2, j2]) (pw c' c _ _ z)
/-- what is known of a def that may be called -/
structure Has (g : Bool) (P : Program) (w : World) (K : Fr') (mg : Str → Option Value) (base : Heap) (k : Nat) (f : Addr) (ps : List Str) (sp : Sp) : Prop where
  ex : ∃ fd, FnD g P w K mg base k f fd ps sp ∧ PySem.W.keepIn K (.ref f) = true ∧ Binds K fd ps []
/-- .. by names too -/
theorem FunD.kwB {K : Fr'} {x qual : Str} {params : Arguments} {body : List Stmt} {scope : Scope} {kws : List (Str × V)} {f : Addr} {fd : FuncData} (F : FunD K x qual params body scope [] kws f fd) (ps ks : List Str) (ix : List Nat)
    (h : ∀ (kV doc pm : Value) (an : Option Addr) (cdv ct : Value) (ws : List Value), ws.length = ks.length → bindArgs (PySem.W.fnOf x qual params body scope .none kV doc pm an cdv ct) ⟨[], ks.zip ws⟩ = pure (ps.zip (pick ix ws))) : KwB fd ps ks ix := by
  obtain ⟨oc, od, dV, kV, doc, pm, an, cdv, ct, osl, rfl, lk, hcd, hD, hK⟩ := F.ex
  rcases hD with ⟨_, rfl⟩ | ⟨e, _⟩
  · intro s ws hl
    exact .of_eq (h kV doc pm an cdv ct ws hl)
  · exact absurd rfl e
end DL
end

section
set_option Elab.async false
set_option linter.all false
set_option maxRecDepth 100000
set_option maxHeartbeats 4000000
/-! DL: what the printed walks lean on. -/
namespace DL
open PySem PySem.Spec PyProof.Rows L2
open Evl (Ex)
/-- an own list is a datum from here on; a datum stays one -/
def mFrz (i : Nat) (m : MS) : MS := fun env => match env[i]? with
  | some (.own ds) => m (env.set i (.val (.lst ds)))
  | _ => m env
section
variable {cs : CT} {X : Cx} {e a b : Expr} {es : List Expr} {sts : List Stmt} {m ma mb : Env' → Mo D} {ms : MS} {pos : Pos}
theorem ss_frz (i : Nat) (h : PSsD cs X sts ms) : PSsD cs X sts (mFrz i ms) := by
  obtain ⟨t, a1, a2⟩ := h.ex
  refine ⟨_, a1, fun ap H0 B0 B σ env H p E o env' p' k hm q => ?_⟩
  unfold mFrz at hm
  rcases g : env[i]? with _ | _ | _ | ds | _
  · rw [g] at hm; exact a2 ap H0 B0 B σ _ H p E o env' p' k hm q
  · rw [g] at hm; exact a2 ap H0 B0 B σ _ H p E o env' p' k hm q
  · rw [g] at hm; exact a2 ap H0 B0 B σ _ H p E o env' p' k hm q
  · rw [g] at hm
    obtain ⟨B', ex, k'⟩ := k.freeze g
    exact a2 ap H0 B0 B' σ _ H p E o env' p' k' hm (q.mono ex)
  · rw [g] at hm; exact a2 ap H0 B0 B σ _ H p E o env' p' k hm q
/-! ### a list or a tuple walked -/
theorem pi_or {tg iter : Expr} {w1 w2 : TI} (h1 : PI X tg iter w1) (h2 : PI X tg iter w2) : PI X tg iter (fun σ H R => w1 σ H R ∨ w2 σ H R) :=
  ⟨by
    first
      | exact fun pins s σ H R Q I h => h.elim (h1.run pins s σ H R Q I) (h2.run pins s σ H R Q I)
      | (intros; rename_i h; rcases h with h | h <;> first | (apply h1.run <;> assumption) | (apply h2.run <;> assumption))⟩
def srcS (a : Env' → Mo D) : Env' → Mo (List D) := fun env => bindM (a env) fun x => match x with
  | .lst ds => retM ds
  | .tup ds => retM ds
  | _ => failM
theorem i_seq {tg : Expr} (h : PED cs X e ma) : PID cs X tg e (srcS ma) := by
  obtain ⟨w1, a1, a2⟩ := (i_list (tg := tg) h).ex
  obtain ⟨w2, b1, b2⟩ := (i_tup (tg := tg) h).ex
  refine ⟨_, pi_or a1 b1, fun ap H0 B0 B σ env H p R ds p' k hm q => ?_⟩
  obtain ⟨x, p1, e1, e2⟩ := bindM_some hm
  cases x <;> first | (cases e2; done) | skip
  · exact .inl (a2 ap H0 B0 B σ env H p R ds p' k (show bindM (ma env) _ p = _ by unfold bindM; rw [e1]; exact e2) q)
  · exact .inr (b2 ap H0 B0 B σ env H p R ds p' k (show bindM (ma env) _ p = _ by unfold bindM; rw [e1]; exact e2) q)
theorem op_eqF (ne : Bool) : OpD cs X (compareOp (DQ.opC ne)) (dEqF ne) := by
  have key : OpR X (compareOp (DQ.opC ne)) (fun v w H Q => scal v w = true ∧ Q (.bl (decide (v = w) != ne)) H) := by
    intro pins s σ H v w v' w' Q I rv rw' h
    cases ne with
    | false => exact op_eq pins s σ H v w v' w' Q I rv rw' ⟨h.1, by have q := h.2; rw [show (decide (v = w) != false) = decide (v = w) by cases decide (v = w) <;> rfl] at q; exact q⟩
    | true => exact op_ne pins s σ H v w v' w' Q I rv rw' ⟨h.1, by have q := h.2; rw [show (decide (v = w) != true) = !decide (v = w) by cases decide (v = w) <;> rfl] at q; exact q⟩
  refine ⟨_, key, fun ap B H p x y v u Q d p' e hp hb rx ry hm q => ?_⟩
  unfold dEqF at hm
  rcases hv : flV x with _ | v1
  · rw [hv] at hm; cases hm
  · rcases hw : flV y with _ | w1
    · rw [hv, hw] at hm; cases hm
    · rw [hv, hw] at hm
      dsimp only at hm
      split at hm
      · rename_i hs
        cases hm
        obtain ⟨rfl, _⟩ := rep_flat hv rx
        obtain ⟨rfl, _⟩ := rep_flat hw ry
        exact ⟨hs, q B H _ (Nxt.refl e) hp (by simp only [Rep])⟩
      · cases hm
end
end DL
end

section
set_option Elab.async false
set_option linter.all false
set_option maxRecDepth 100000
set_option maxHeartbeats 4000000
/-! DL: more of the library: an empty dict, chains, in, sorted, list(range), tuple(range). -/
namespace SrtO
open PySem PySem.Spec PyProof.Rows
/-- sorted(a tuple) -/
theorem sorted_tupO {prog : Program} {w : World} {A : Around} {E : Value → Shared → Prop} {s : Shared} {l : Addr} {o : Obj} {vs : List Value} {n : Nat} {lt : Value → Value → Bool} {Q : Value → Shared → Prop} (O : Swo lt) (ho : s.heap.get? l = some o) (hc : o.cls = .type "tuple") (hd : o.data = .seq vs.toArray n)
    (hz : vs.length ≤ sizeLine) (hS : 2 ≤ vs.length → ∀ (h₁ : Heap) (a : Addr), h₁.get? a = some (seqObj "list" vs.toArray 0) → SortableO prog w A.in1.in1 { s with heap := h₁ } a vs lt)
    (h : ∀ (out : List Value) (h' : Heap), Srtd lt out → Stb lt out vs → (∀ b u, s.heap.get? b = some u → h'.get? b = some u) → Q (.ref h'.objs.size) { s with heap := sortedHeap (h'.push (seqObj "list" vs.toArray 0)) h'.objs.size vs out.toArray }) :
    wpAny (model prog w) A (call (.builtin "sorted") [.ref l]) Q E s := by
  refine Calls.call_function_entry (id := "sorted") kind_sorted plain_sorted entry_sorted (args_sorted1 (.ref l)) ?_
  unfold Builtin.«sorted»; refine wpAny_bind (m := checkCount "sorted" 1 1 _) (wpAny_pure (wpAny_bind (wpAny_collect_seq l (.inr rfl) ho hc hd (fun h' hk => ?_) (by rw [List.size_toArray]; exact hz))))
  refine wpAny_bind (wpAny_newList ?_ (by simpa using hz))
  have hoL : (h'.push (seqObj "list" vs.toArray 0)).get? h'.objs.size = some (seqObj "list" vs.toArray 0) := Heap.get?_push_size _ rfl
  show wpAny _ _ _ _ _ { s with heap := h'.push (seqObj "list" vs.toArray 0) }
  refine wpAny_bind (wpAny_holding (wpAny_call_entry slot_list_sort ⟨_, hoL, rfl⟩ entry_list_sort (list_sort_ord O hoL hz (fun h2 => hS h2 _ _ hoL) fun out hs hb => ⟨_, rfl, wpAny_pure ⟨_, rfl, h out h' hs hb hk⟩⟩) (args_list_sort _)))
end SrtO
namespace DL
open PySem PySem.Spec PyProof.Rows L2
open Evl (Ex)
section
variable {cs : CT} {X : Cx} {e a b c : Expr} {es : List Expr} {m ma mb mc : Env' → Mo D} {pos : Pos}
theorem p_ed : PED cs X (.Dict [] [] pos) (mC .ed) := by
  refine ⟨_, pe_dnewK, fun ap H0 B0 B σ env H p Q d p' k hm q => ?_⟩
  cases hm
  intro t ht
  exact q _ _ _ (Nxt.new k.bh ht) (k.pot.new ht) (by simp only [Rep]; exact ⟨t, rfl, upd_same⟩)
/-! ### a < b < c -/
def mChain (f g : D → D → Mo D) (ma mb mc : Env' → Mo D) : Env' → Mo D := fun env => bindM (ma env) fun x => bindM (mb env) fun y => bindM (f x y) fun z => match z with
  | .bl true => bindM (mc env) fun w => g y w
  | .bl false => retM (.bl false)
  | _ => failM
theorem chain_ev {K : PySem.W.Frag} {r r' : R2} {f g : D → D → Mo D} {ta tb tc : TE} (ha : EvE K cs ta ma) (hb : EvE K cs tb mb) (hc : EvE K cs tc mc)
    (hr : ∀ ap B H p x y v u (Q : VK) d p', Ex B H → PotAt ap H p → B ap = none → Rep K cs ap B x v → Rep K cs ap B y u → f x y p = some (d, p') → KE K cs ap B H p' d Q → r v u H Q)
    (hr' : ∀ ap B H p x y v u (Q : VK) d p', Ex B H → PotAt ap H p → B ap = none → Rep K cs ap B x v → Rep K cs ap B y u → g x y p = some (d, p') → KE K cs ap B H p' d Q → r' v u H Q) : EvE K cs (tChain r r' ta tb tc) (mChain f g ma mb mc) := by
  intro ap H0 B0 B σ env H p Q d p' k hm q
  obtain ⟨x, p1, e1, e2⟩ := bindM_some hm
  obtain ⟨y, p2, e3, e4⟩ := bindM_some e2
  obtain ⟨z, p3, e5, e6⟩ := bindM_some e4
  refine ha ap H0 B0 B σ env H p _ x p1 k e1 fun B1 H1 v n1 hp1 r1 => ?_
  have k1 := k.nxt n1 hp1
  refine hb ap H0 B0 B1 σ env H1 p1 _ y p2 k1 e3 fun B2 H2 u n2 hp2 r2 => ?_
  have k2 := k1.nxt n2 hp2
  refine hr ap B2 H2 p2 x y v u _ z p3 k2.bh hp2 k2.bap (r1.mono n2.bb) r2 e5 fun B3 H3 w n3 hp3 r3 => ?_
  have k3 := k2.nxt n3 hp3
  split at e6
  · simp only [Rep] at r3
    refine ⟨true, r3, ?_⟩
    rw [if_pos rfl]
    obtain ⟨t, p4, e7, e8⟩ := bindM_some e6
    refine hc ap H0 B0 B3 σ env H3 p3 _ t p4 k3 e7 fun B4 H4 w' n4 hp4 r4 => ?_
    have k4 := k3.nxt n4 hp4
    exact hr' ap B4 H4 p4 y t u w' Q d p' k4.bh hp4 k4.bap ((r2.mono n3.bb).mono n4.bb) r4 e8 fun B5 H5 v5 n5 hp5 r5 => q B5 H5 v5 (n1.trans (n2.trans (n3.trans (n4.trans n5)))) hp5 r5
  · simp only [Rep] at r3
    cases e6
    refine ⟨false, r3, ?_⟩
    rw [if_neg (by decide)]
    exact q B3 H3 _ (n1.trans (n2.trans n3)) hp3 (by simp only [Rep])
  · cases e6
theorem p_chain {op op' : CmpOp} {f g : D → D → Mo D} (ho : OpD cs X (compareOp op) f) (ho' : OpD cs X (compareOp op') g) (ha : PED cs X a ma) (hb : PED cs X b mb) (hc : PED cs X c mc) (hm : lastMarks [op, op'] [b, c] = false := by with_unfolding_all rfl) : PED cs X (.Compare a [op, op'] [b, c] pos) (mChain f g ma mb mc) := by
  obtain ⟨ta, a1, a2⟩ := ha.ex
  obtain ⟨tb, b1, b2⟩ := hb.ex
  obtain ⟨tc, c1, c2⟩ := hc.ex
  obtain ⟨r, h1, h2⟩ := ho
  obtain ⟨r', h1', h2'⟩ := ho'
  exact ⟨_, pe_chain h1 h1' a1 b1 c1 hm, chain_ev a2 b2 c2 h2 h2'⟩
theorem pt_chainD {op op' : CmpOp} {f g : D → D → Mo D} (ho : OpD cs X (compareOp op) f) (ho' : OpD cs X (compareOp op') g) (ha : PED cs X a ma) (hb : PED cs X b mb) (hc : PED cs X c mc) (hm : lastMarks [op, op'] [b, c] = false := by with_unfolding_all rfl) : PTD cs X (.Compare a [op, op'] [b, c] pos) (mB (mChain f g ma mb mc)) := by
  obtain ⟨ta, a1, a2⟩ := ha.ex
  obtain ⟨tb, b1, b2⟩ := hb.ex
  obtain ⟨tc, c1, c2⟩ := hc.ex
  obtain ⟨r, h1, h2⟩ := ho
  obtain ⟨r', h1', h2'⟩ := ho'
  exact ⟨_, pt_chain h1 h1' a1 b1 c1 hm, evT_of (chain_ev a2 b2 c2 h2 h2')⟩
/-! ### in -/
def flVs : List D → Option (List V)
  | [] => some []
  | d :: ds => match flV d with
    | some v => match flVs ds with
      | some vs => some (v :: vs)
      | none => none
    | none => none
theorem reps_flat {ap : Addr} {B : Hp} : ∀ {ds : List D} {vs ws : List V}, flVs ds = some ws → Reps X.K cs ap B ds vs → vs = ws ∧ vs.all flatV = true
  | [], vs, ws, h, r => by
    cases h
    simp only [Reps] at r
    subst r
    exact ⟨rfl, rfl⟩
  | d :: ds, vs, ws, h, r => by
    simp only [Reps] at r
    obtain ⟨x, t, rfl, r1, r2⟩ := r
    unfold flVs at h
    rcases z : flV d with _ | v
    · rw [z] at h; cases h
    · rw [z] at h
      dsimp only at h
      rcases y : flVs ds with _ | us
      · rw [y] at h; cases h
      · rw [y] at h
        cases h
        obtain ⟨rfl, h2⟩ := reps_flat y r2
        obtain ⟨rfl, h3⟩ := rep_flat z r1
        exact ⟨rfl, by rw [List.all_cons, h3, h2]; rfl⟩
def opI (neg : Bool) : CmpOp := if neg then .NotIn else .In
def dInF (neg : Bool) : D → D → Mo D := fun x y => match flV x with
  | some v => match y with
    | .lst ds => match flVs ds with
      | some ws => retM (.bl (if neg then !inV v ws else inV v ws))
      | none => failM
    | .tup ds => match flVs ds with
      | some ws => retM (.bl (if neg then !inV v ws else inV v ws))
      | none => failM
    | _ => failM
  | none => failM
theorem op_inF (neg : Bool) : OpD cs X (compareOp (opI neg)) (dInF neg) := by
  have key : OpR X (compareOp (opI neg)) (rIn X.K neg) := by
    cases neg with
    | false => exact op_in_seq
    | true => exact op_notIn_seq
  refine ⟨_, key, fun ap B H p x y v u Q d p' e hp hb rx ry hm q => ?_⟩
  unfold dInF at hm
  rcases hv : flV x with _ | w
  · rw [hv] at hm; cases hm
  · rw [hv] at hm
    dsimp only at hm
    obtain ⟨rfl, hf⟩ := rep_flat hv rx
    split at hm
    · rename_i ds
      rcases z : flVs ds with _ | ws
      · rw [z] at hm; cases hm
      · rw [z] at hm
        cases hm
        simp only [Rep] at ry
        obtain ⟨t, xs, rfl, h1, h2⟩ := ry
        obtain ⟨rfl, h3⟩ := reps_flat z h2
        exact ⟨t, xs, rfl, .inl (SqL.of (e _ _ h1)), hf, h3, q B H _ (Nxt.refl e) hp (by simp only [Rep])⟩
    · rename_i ds
      rcases z : flVs ds with _ | ws
      · rw [z] at hm; cases hm
      · rw [z] at hm
        cases hm
        simp only [Rep] at ry
        obtain ⟨t, xs, rfl, h1, h2⟩ := ry
        obtain ⟨rfl, h3⟩ := reps_flat z h2
        exact ⟨t, xs, rfl, .inr (Evl.ex_t e h1), hf, h3, q B H _ (Nxt.refl e) hp (by simp only [Rep])⟩
    · cases hm
/-! ### sorted -/
def intsD : List D → Option (List Int)
  | [] => some []
  | .int i :: ds => match intsD ds with
    | some ns => some (i :: ns)
    | none => none
  | _ => none
theorem repsI {ap : Addr} {B : Hp} : ∀ {ds : List D} {vs : List V} {ns : List Int}, intsD ds = some ns → Reps X.K cs ap B ds vs → vs = ns.map V.int
  | [], vs, ns, h, r => by
    cases h
    simp only [Reps] at r
    exact r
  | d :: ds, vs, ns, h, r => by
    simp only [Reps] at r
    obtain ⟨x, t, rfl, r1, r2⟩ := r
    cases d <;> first | (cases h; done) | skip
    rename_i i
    unfold intsD at h
    rcases y : intsD ds with _ | us
    · rw [y] at h; cases h
    · rw [y] at h
      cases h
      simp only [Rep] at r1
      rw [r1, repsI y r2]
      rfl
theorem ints_reps {ap : Addr} {B : Hp} : ∀ ns : List Int, Reps X.K cs ap B (ns.map D.int) (ns.map V.int)
  | [] => reps_nil
  | n :: ns => reps_cons (by simp only [Rep]) (ints_reps ns)
def rSortedIT (K : PySem.W.Frag) : List V → Hp → VK → Prop := fun vs H Q => ∃ (t : Addr) (ns : List Int), vs = [V.ref t] ∧ SqT K H t (ns.map V.int) ∧
  ∀ (ns' : List Int) (p : Addr), ns'.Perm ns → ns'.Pairwise (· ≤ ·) → H p = none → Q (.ref p) (upd H p (.lst (ns'.map V.int)))
theorem cr_sortedIT : CallR X (.builtin "sorted") (rSortedIT X.K) := by
  intro pins s σ H vs us Q I r h
  obtain ⟨t, ns, rfl, hs, q⟩ := h
  obtain ⟨its, rv, ⟨o, ho, hc, n, hd⟩, hz⟩ := I.tuple hs
  rw [Vals.ref1 r]
  have hi := rv.ints
  refine SrtO.sorted_tupO SrtO.swo_int ho hc hd (by rw [← rv.length]; exact hz) (fun h2 h₁ a' _ => SrtO.ints_sortable hi h2) fun out h' h1 h2 hk => ?_
  obtain ⟨k1, k2, k3⟩ := SrtO.ints_out hi h1 h2
  have I1 : Inv X pins σ H { s with heap := h' } := I.kept (t' := s.toks) hk
  have hlen : ((out.map SrtO.iv).map V.int).length ≤ sizeLine := by rw [List.length_map, k2.length_eq]; rw [List.length_map] at hz; exact hz
  obtain ⟨ep, he'⟩ : ∃ ep, (sortedHeap (h'.push (seqObj "list" its.toArray 0)) h'.objs.size its out.toArray).get? h'.objs.size = some (seqObj "list" out.toArray ep) := sortedHeap_at (n := 0) (Heap.get?_push_size _ rfl)
  refine ⟨.ref _, upd H h'.objs.size (.lst ((out.map SrtO.iv).map V.int)), I1.laid (t' := s.toks) (fun b u z => ?_) (Nat.le_refl _) ⟨hlen, out, ep, vals_of_ints k1, he'⟩, rfl, q _ _ k2 k3 (I1.hok.fresh (Nat.le_refl _))⟩
  have hlt : b < h'.objs.size := Heap.lt_size z
  rw [sortedHeap_old (Nat.ne_of_lt hlt) (by rw [size_push']; exact Nat.lt_succ_of_lt hlt)]
  exact Heap.get?_push_of_some _ z
/-- ints in sequence -/
def sortI (ns : List Int) : List Int := ns.mergeSort (fun a b => decide (a ≤ b))
theorem sortI_of {ns ns' : List Int} (h1 : ns'.Perm ns) (h2 : ns'.Pairwise (· ≤ ·)) : ns' = sortI ns := by
  have p : (sortI ns).Perm ns := List.mergeSort_perm ns _
  have s : (sortI ns).Pairwise (fun a b => decide (a ≤ b) = true) := List.pairwise_mergeSort (fun a b c x y => by simp only [decide_eq_true_eq] at *; omega) (fun a b => by simp only [Bool.or_eq_true, decide_eq_true_eq]; omega) ns
  refine (h1.trans p.symm).eq_of_pairwise (le := (· ≤ ·)) (fun a b _ _ x y => Int.le_antisymm x y) h2 (s.imp fun z => by simpa using z)
def cSorted : List D → Mo D := fun ds => match ds with
  | [.lst xs] => match intsD xs with
    | some ns => retM (.lst ((sortI ns).map .int))
    | none => failM
  | [.tup xs] => match intsD xs with
    | some ns => retM (.lst ((sortI ns).map .int))
    | none => failM
  | _ => failM
theorem ca_sorted : CaD cs X (.builtin "sorted") cSorted := by
  have key : CallR X (.builtin "sorted") (fun vs H Q => rSortedI X.K vs H Q ∨ rSortedIT X.K vs H Q) := fun pins s σ H xs us Q I rv h => h.elim (cr_sortedI pins s σ H xs us Q I rv) (cr_sortedIT pins s σ H xs us Q I rv)
  refine ⟨_, key, fun ap B H p ds vs Q d p' e hp hb r hm q => ?_⟩
  unfold cSorted at hm
  split at hm
  · rename_i xs
    obtain ⟨v, rfl, rv⟩ := reps1 r
    rcases z : intsD xs with _ | ns
    · rw [z] at hm; cases hm
    · rw [z] at hm
      cases hm
      simp only [Rep] at rv
      obtain ⟨t, ys, rfl, h1, h2⟩ := rv
      cases repsI z h2
      refine .inl ⟨t, ns, rfl, SqL.of (e _ _ h1), fun ns' u g1 g2 hu => ?_⟩
      cases sortI_of g1 g2
      exact q _ _ _ (Nxt.new e hu) (hp.new hu) (by simp only [Rep]; exact ⟨u, _, rfl, upd_same, ints_reps _⟩)
  · rename_i xs
    obtain ⟨v, rfl, rv⟩ := reps1 r
    rcases z : intsD xs with _ | ns
    · rw [z] at hm; cases hm
    · rw [z] at hm
      cases hm
      simp only [Rep] at rv
      obtain ⟨t, ys, rfl, h1, h2⟩ := rv
      cases repsI z h2
      refine .inr ⟨t, ns, rfl, Evl.ex_t e h1, fun ns' u g1 g2 hu => ?_⟩
      cases sortI_of g1 g2
      exact q _ _ _ (Nxt.new e hu) (hp.new hu) (by simp only [Rep]; exact ⟨u, _, rfl, upd_same, ints_reps _⟩)
  · cases hm
end
end DL
end

section
set_option Elab.async false
set_option linter.all false
set_option maxRecDepth 100000
set_option maxHeartbeats 4000000
/-! DL: ranges as lists, own lists extended, drawn from, exchanged; two names at once; a tuple of ints of the module. -/
namespace DL
open PySem PySem.Spec PyProof.Rows L2
open Evl (Ex)
/-! ### a tuple of ints that the module names -/
def ivO : Value → Option Int
  | .int i _ => some i
  | _ => none
theorem vals_iv : ∀ {us : List Value} {ns : List Int}, us.map ivO = ns.map some → Vals (ns.map V.int) us
  | [], [], _ => .nil
  | [], _ :: _, h => by simp at h
  | _ :: _, [], h => by simp at h
  | u :: us, n :: ns, h => by
    simp only [List.map_cons, List.cons.injEq] at h
    cases u <;> first | (cases h.1; done) | skip
    rename_i i t
    cases h.1
    exact .cons ⟨t, rfl⟩ (vals_iv h.2)
def tTupI (x : Str) (ns : List Int) : Fr' → Bool := fun K => match PySem.W.nsIn K mainGlobals x with
  | some (some (.ref a)) => match K.lookup a with
    | some o => decide (o.cls = .type "tuple") && (match o.data with
      | .seq its _ => decide (its.size ≤ sizeLine) && decide (its.toList.map ivO = ns.map some)
      | _ => false)
    | none => false
  | _ => false
theorem tTupI_ok {K : Fr'} {h : Heap} {mg : Str → Option Value} {x : Str} {ns : List Int} (X : K.In h) (G : h.Ns mainGlobals mg) (c : tTupI x ns K = true) : ∃ t, mg x = some (.ref t) ∧ ∀ H, SqT K H t (ns.map V.int) := by
  unfold tTupI at c
  split at c
  · rename_i a e
    split at c
    · rename_i o e2
      obtain ⟨c1, c2⟩ := He.ba c
      split at c2
      · rename_i its n e3
        obtain ⟨c3, c4⟩ := He.ba c2
        exact ⟨a, PySem.W.mg_of X G e, fun H => .inr ⟨o, its, n, e2, of_decide_eq_true c1, e3, of_decide_eq_true c3, vals_iv (of_decide_eq_true c4)⟩⟩
      · cases c2
    · cases c
  · cases c
section
variable {cs : CT} {X : Cx} {e a b c : Expr} {es : List Expr} {m ma mb mc : Env' → Mo D} {oa ob : Env' → Mo (List D)} {pos : Pos}
theorem p_gtup {x : Str} {t : Addr} {ns : List Int} (hg : Gl X x) (hm : X.mg x = some (.ref t)) (ht : ∀ H, SqT X.K H t (ns.map V.int)) (hd : (x == ("__debug__" : Str)) = false := by decide) : PED cs X (.Name x pos) (mC (.tup (ns.map .int))) :=
  p_const (pe_glob hg hm (v := .ref t) rfl hd) fun _ _ => by simp only [Rep]; exact ⟨t, _, rfl, ht _, ints_reps ns⟩
/-! ### list(range(..)), tuple(range(..)) -/
theorem reps_rg {ap : Addr} {B : Hp} (lo hi : Int) : Reps X.K cs ap B (rngD lo (hi - lo).toNat) (rgV lo hi) := by
  unfold rngD rgV
  generalize List.range (hi - lo).toNat = l
  induction l with
  | nil => exact reps_nil
  | cons i l ih => exact reps_cons (by simp only [Rep]) ih
def oRg1 (ma : Env' → Mo D) : Env' → Mo (List D) := fun env => bindM (ma env) fun x => match x with
  | .int n => if -1000000 ≤ n ∧ n ≤ 1000000 then retM (rngD 0 n.toNat) else failM
  | _ => failM
def oRg2 (ma mb : Env' → Mo D) : Env' → Mo (List D) := fun env => bindM (ma env) fun x => bindM (mb env) fun y => match x, y with
  | .int i, .int n => if -1000000 ≤ n ∧ n ≤ 1000000 ∧ -1000000 ≤ i ∧ i ≤ 1000000 then retM (rngD i (n - i).toNat) else failM
  | _, _ => failM
theorem rg_ok {i n : Int} (h1 : -1000000 ≤ n) (h2 : n ≤ 1000000) (h3 : -1000000 ≤ i) (h4 : i ≤ 1000000) : RgOk i n := ⟨by omega, by omega, by omega, by omega, by omega⟩
theorem o_listRg1 {p p2 rpos : Pos} (hc : X.calm = true) (hl : X.mg "list" = none) (hm : X.mg "range" = none) (ha : PED cs X a ma) (hgl : Gl X "list" := by rfl) (hg : Gl X "range" := by rfl) (na : starEach [a] X.env = (false, eval a X.env) :: starEach [] X.env := by rfl)
    (nr : starEach [.Call (.Name "range" p2) [a] [] rpos] X.env = (false, eval (.Call (.Name "range" p2) [a] [] rpos) X.env) :: starEach [] X.env := by rfl) : POD cs X (.Call (.Name "list" p) [.Call (.Name "range" p2) [a] [] rpos] [] pos) (oRg1 ma) := by
  obtain ⟨ta, a1, a2⟩ := ha.ex
  refine ⟨_, pe_listRg hc hgl hl (prg_1 hg hm a1 na) nr, fun ap H0 B0 B σ env H p Q ds p' k hm q => ?_⟩
  obtain ⟨x, p1, e1, e2⟩ := bindM_some hm
  split at e2
  · split at e2
    · rename_i n hn
      cases e2
      refine a2 ap H0 B0 B σ env H p _ _ p' k e1 fun B1 H1 v n1 hp1 r1 => ?_
      simp only [Rep] at r1
      have := reps_rg (X := X) (cs := cs) (ap := ap) (B := B1) 0 n
      rw [Int.sub_zero] at this
      exact ⟨n, r1, rg_ok hn.1 hn.2 (by omega) (by omega), q.new n1 hp1 this⟩
    · cases e2
  · cases e2
theorem o_listRg2 {p p2 rpos : Pos} (hc : X.calm = true) (hl : X.mg "list" = none) (hm : X.mg "range" = none) (ha : PED cs X a ma) (hb : PED cs X b mb) (hgl : Gl X "list" := by rfl) (hg : Gl X "range" := by rfl) (na : starEach [a, b] X.env = (false, eval a X.env) :: starEach [b] X.env := by rfl)
    (nb : starEach [b] X.env = (false, eval b X.env) :: starEach [] X.env := by rfl) (hpl : (backTo rpos (starEach [b] X.env)).any (·.1) = false := by rfl)
    (nr : starEach [.Call (.Name "range" p2) [a, b] [] rpos] X.env = (false, eval (.Call (.Name "range" p2) [a, b] [] rpos) X.env) :: starEach [] X.env := by rfl) : POD cs X (.Call (.Name "list" p) [.Call (.Name "range" p2) [a, b] [] rpos] [] pos) (oRg2 ma mb) := by
  obtain ⟨ta, a1, a2⟩ := ha.ex
  obtain ⟨tb, b1, b2⟩ := hb.ex
  refine ⟨_, pe_listRg hc hgl hl (prg_2 hg hm a1 b1 na nb hpl) nr, fun ap H0 B0 B σ env H p Q ds p' k hm q => ?_⟩
  obtain ⟨x, p1, e1, e2⟩ := bindM_some hm
  obtain ⟨y, p2, e3, e4⟩ := bindM_some e2
  split at e4
  · split at e4
    · rename_i i n hn
      cases e4
      refine a2 ap H0 B0 B σ env H p _ _ p1 k e1 fun B1 H1 v n1 hp1 r1 => ?_
      refine b2 ap H0 B0 B1 σ env H1 p1 _ _ p' (k.nxt n1 hp1) e3 fun B2 H2 u n2 hp2 r2 => ?_
      simp only [Rep] at r1 r2
      exact ⟨i, n, r1, r2, rg_ok hn.1 hn.2.1 hn.2.2.1 hn.2.2.2, q.new (n1.trans n2) hp2 (reps_rg i n)⟩
    · cases e4
  · cases e4
theorem p_tupRg1 {p p2 rpos : Pos} (hc : X.calm = true) (hl : X.mg "tuple" = none) (hm : X.mg "range" = none) (ha : PED cs X a ma) (hgl : Gl X "tuple" := by rfl) (hg : Gl X "range" := by rfl) (na : starEach [a] X.env = (false, eval a X.env) :: starEach [] X.env := by rfl)
    (nr : starEach [.Call (.Name "range" p2) [a] [] rpos] X.env = (false, eval (.Call (.Name "range" p2) [a] [] rpos) X.env) :: starEach [] X.env := by rfl) : PED cs X (.Call (.Name "tuple" p) [.Call (.Name "range" p2) [a] [] rpos] [] pos) (mTup (oRg1 ma)) := by
  obtain ⟨ta, a1, a2⟩ := ha.ex
  refine ⟨_, pe_tupRg hc hgl hl (prg_1 hg hm a1 na) nr, fun ap H0 B0 B σ env H p Q d p' k hm q => ?_⟩
  obtain ⟨ds, p1, e1, e2⟩ := bindM_some hm
  obtain ⟨x, p2, e3, e4⟩ := bindM_some e1
  split at e4
  · split at e4
    · rename_i n hn
      cases e4
      split at e2
      · cases e2
        refine a2 ap H0 B0 B σ env H p _ _ p' k e3 fun B1 H1 v n1 hp1 r1 => ?_
        simp only [Rep] at r1
        have := reps_rg (X := X) (cs := cs) (ap := ap) (B := B1) 0 n
        rw [Int.sub_zero] at this
        refine ⟨n, r1, rg_ok hn.1 hn.2 (by omega) (by omega), fun t ht => ?_⟩
        have n2 : Nxt ap B1 H1 (upd B1 t (.tup (rgV 0 n))) (upd H1 t (.tup (rgV 0 n))) := Nxt.new n1.bh ht
        exact q _ _ _ (n1.trans n2) (hp1.new ht) (by simp only [Rep]; exact ⟨t, _, rfl, SqT.of upd_same, this.mono n2.bb⟩)
      · cases e2
    · cases e4
  · cases e4
/-! ### xs.extend(e) -/
def mExt (i : Nat) (m : Env' → Mo D) : MS := fun env => bindM (m env) fun d => match env[i]?, d with
  | some (.own ds), .lst es => if ds.length + es.length ≤ 100000 then retM (.nx, env.set i (.own (ds ++ es))) else failM
  | _, _ => failM
theorem s_ext (i : Nat) {x : Str} {p1 apos cpos : Pos} (h : PED cs X e m) (hN : X.N[i]? = some x := by rfl) (hv : Vis X.env.scope x := by first | exact Or.inl rfl | exact Or.inr (Or.inl rfl) | exact Or.inr (Or.inr rfl)) (hd : (x == ("__debug__" : Str)) = false := by decide) (hcd : (x == ("__classdict__" : Str)) = false := by decide)
    (hs : starEach [e] X.env = (false, eval e X.env) :: starEach [] X.env := by rfl) (hsw : swapsWith (.Call (.Attribute (.Name x p1) "extend" apos) [e] [] cpos) none pos.line X.env = pure false := by rfl) (hbase : attributeBase (.Name x p1) "extend" X.env (eval (.Name x p1) X.env) = eval (.Name x p1) X.env := by rfl)
    (hline : (apos.endLine == cpos.line) = true := by rfl) (hfew : ((((backTo cpos (starEach [e] X.env)).all fun x => !x.fst) && (backToKw cpos (keywordEach [] X.env)).all fun x => x.fst.isSome) && decide (([e].length + ([] : List Keyword).length + if ([] : List Keyword).isEmpty = true then 0 else 1) < 30)) = true := by rfl) :
    PSD cs X (.Expr (.Call (.Attribute (.Name x p1) "extend" apos) [e] [] cpos) pos) (mExt i m) := by
  obtain ⟨te, h1, h2⟩ := h.ex
  refine ⟨_, ps_expr (pe_bm PySem.F.plainAttrs_list PySem.F.slot_list_extend PySem.F.type_list_extend mt_extend (pe_var hN hv hd hcd) (L2.pa_cons h1 L2.pa_nil hs) (hbase := hbase) (hs := hs) (hfew := hfew) (hline := hline)) hsw, fun ap H0 B0 B σ env H p E o env' p' k hm q => ?_⟩
  obtain ⟨d, p1, e1, e2⟩ := bindM_some hm
  rcases g : env[i]? with _ | _ | _ | ds | _
  · rw [g] at e2; cases e2
  · rw [g] at e2; cases e2
  · rw [g] at e2; cases e2
  · rw [g] at e2
    cases d <;> first | (cases e2; done) | skip
    rename_i es'
    dsimp only at e2
    split at e2
    · rename_i hz
      cases e2
      obtain ⟨a, xs, g1, g2, g3, g4⟩ := k.sl i _ g
      have nap : a ≠ ap := fun z => k.hap (z ▸ k.ownNew i ds a g g1)
      refine ⟨.ref a, g1, .inl ⟨rfl, xs, SqL.of g3⟩, h2 ap H0 B0 B σ env H p _ _ p' k e1 fun B1 H1 v n1 hp1 r1 => ?_⟩
      have k1 := k.nxt n1 hp1
      simp only [Rep] at r1
      obtain ⟨b, ys, rfl, r2, r3⟩ := r1
      refine ⟨a, b, xs, ys, rfl, rfl, n1.fr _ _ g3 nap, n1.bh _ _ r2, sz100 (by rw [g4.length, r3.length]; exact hz), ?_⟩
      exact q B1 σ _ n1.bb (k1.mut g g1 ((g4.mono n1.bb).append r3))
    · cases e2
  · rw [g] at e2; cases e2
/-! ### xs.append(ys.pop(e)) -/
def mAppPop (i j : Nat) (m : Env' → Mo D) : MS := fun env => bindM (m env) fun d => match env[i]?, env[j]?, d with
  | some (.own ds), some (.own es), .int n => match ixN es.length n with
    | some kk => match es[kk]? with
      | some y => if i ≠ j ∧ ds.length ≤ 100000 ∧ es.length ≤ 100000 then retM (.nx, (env.set j (.own (es.eraseIdx kk))).set i (.own (ds ++ [y]))) else failM
      | none => failM
    | none => failM
  | _, _, _ => failM
theorem Reps.erase {ap : Addr} {B : Hp} : ∀ {ds : List D} {xs : List V} (i : Nat), Reps X.K cs ap B ds xs → Reps X.K cs ap B (ds.eraseIdx i) (xs.eraseIdx i)
  | [], xs, i, h => by
    simp only [Reps] at h
    subst h
    simp only [List.eraseIdx_nil]
    exact reps_nil
  | d :: ds, xs, 0, h => by
    simp only [Reps] at h
    obtain ⟨x, t, rfl, h1, h2⟩ := h
    exact h2
  | d :: ds, xs, i + 1, h => by
    simp only [Reps] at h
    obtain ⟨x, t, rfl, h1, h2⟩ := h
    exact reps_cons h1 (Reps.erase i h2)
theorem s_appPop (i j : Nat) {x y : Str} {p1 apos cpos p2 apos2 cpos2 : Pos} (h : PED cs X e m) (hN : X.N[i]? = some x := by rfl) (hNy : X.N[j]? = some y := by rfl) (hv : Vis X.env.scope x := by first | exact Or.inl rfl | exact Or.inr (Or.inl rfl) | exact Or.inr (Or.inr rfl)) (hvy : Vis X.env.scope y := by first | exact Or.inl rfl | exact Or.inr (Or.inl rfl) | exact Or.inr (Or.inr rfl))
    (hd : (x == ("__debug__" : Str)) = false := by decide) (hcd : (x == ("__classdict__" : Str)) = false := by decide) (hdy : (y == ("__debug__" : Str)) = false := by decide) (hcdy : (y == ("__classdict__" : Str)) = false := by decide)
    (hs2 : starEach [e] X.env = (false, eval e X.env) :: starEach [] X.env := by rfl)
    (hs : starEach [.Call (.Attribute (.Name y p2) "pop" apos2) [e] [] cpos2] X.env = (false, eval (.Call (.Attribute (.Name y p2) "pop" apos2) [e] [] cpos2) X.env) :: starEach [] X.env := by rfl)
    (hsw : swapsWith (.Call (.Attribute (.Name x p1) "append" apos) [.Call (.Attribute (.Name y p2) "pop" apos2) [e] [] cpos2] [] cpos) none pos.line X.env = pure false := by rfl)
    (hbase : attributeBase (.Name x p1) "append" X.env (eval (.Name x p1) X.env) = eval (.Name x p1) X.env := by rfl) (hbase2 : attributeBase (.Name y p2) "pop" X.env (eval (.Name y p2) X.env) = eval (.Name y p2) X.env := by rfl)
    (hline : (apos.endLine == cpos.line) = true := by rfl) (hline2 : (apos2.endLine == cpos2.line) = true := by rfl)
    (hfew : ((((backTo cpos (starEach [.Call (.Attribute (.Name y p2) "pop" apos2) [e] [] cpos2] X.env)).all fun x => !x.fst) && (backToKw cpos (keywordEach [] X.env)).all fun x => x.fst.isSome) && decide (([Expr.Call (.Attribute (.Name y p2) "pop" apos2) [e] [] cpos2].length + ([] : List Keyword).length + if ([] : List Keyword).isEmpty = true then 0 else 1) < 30)) = true := by rfl)
    (hfew2 : ((((backTo cpos2 (starEach [e] X.env)).all fun x => !x.fst) && (backToKw cpos2 (keywordEach [] X.env)).all fun x => x.fst.isSome) && decide (([e].length + ([] : List Keyword).length + if ([] : List Keyword).isEmpty = true then 0 else 1) < 30)) = true := by rfl) :
    PSD cs X (.Expr (.Call (.Attribute (.Name x p1) "append" apos) [.Call (.Attribute (.Name y p2) "pop" apos2) [e] [] cpos2] [] cpos) pos) (mAppPop i j m) := by
  obtain ⟨te, h1, h2⟩ := h.ex
  refine ⟨_, ps_expr (pe_bm PySem.F.plainAttrs_list PySem.F.slot_list_append PySem.F.type_list_append mt_append (pe_var hN hv hd hcd)
    (L2.pa_cons (pe_bm PySem.F.plainAttrs_list PySem.F.slot_list_pop PySem.F.type_list_pop mt_popAt (pe_var hNy hvy hdy hcdy) (L2.pa_cons h1 L2.pa_nil hs2) (hbase := hbase2) (hs := hs2) (hfew := hfew2) (hline := hline2)) L2.pa_nil hs) (hbase := hbase) (hs := hs) (hfew := hfew) (hline := hline)) hsw, fun ap H0 B0 B σ env H p E o env' p' k hm q => ?_⟩
  obtain ⟨d, p1, e1, e2⟩ := bindM_some hm
  obtain ⟨ds, g⟩ : ∃ ds, env[i]? = some (.own ds) := by
    rcases g : env[i]? with _ | _ | _ | ds | _
    · rw [g] at e2; cases e2
    · rw [g] at e2; cases e2
    · rw [g] at e2; cases e2
    · exact ⟨ds, rfl⟩
    · rw [g] at e2; cases e2
  rw [g] at e2
  obtain ⟨es', gy⟩ : ∃ ds, env[j]? = some (.own ds) := by
    rcases gy : env[j]? with _ | _ | _ | ds | _
    · rw [gy] at e2; cases e2
    · rw [gy] at e2; cases e2
    · rw [gy] at e2; cases e2
    · exact ⟨ds, rfl⟩
    · rw [gy] at e2; cases e2
  rw [gy] at e2
  cases d <;> first | (cases e2; done) | skip
  · rename_i n
    dsimp only at e2
    rcases z : ixN es'.length n with _ | kk
    · rw [z] at e2; cases e2
    · rw [z] at e2
      dsimp only at e2
      rcases zy : es'[kk]? with _ | d'
      · rw [zy] at e2; cases e2
      · rw [zy] at e2
        dsimp only at e2
        split at e2
        case isFalse => cases e2
        rename_i hz
        obtain ⟨hij, hz1, hz2⟩ := hz
        cases e2
        obtain ⟨a, xs, g1, g2, g3, g4⟩ := k.sl i _ g
        obtain ⟨b, ys, y1, y2, y3, y4⟩ := k.sl j _ gy
        have nap : a ≠ ap := fun z => k.hap (z ▸ k.ownNew i ds a g g1)
        have napb : b ≠ ap := fun z => k.hap (z ▸ k.ownNew j es' b gy y1)
        have hab : a ≠ b := fun z => k.ownNe i j ds es' a hij g gy g1 (by rw [z]; exact y1)
        refine ⟨.ref a, g1, .inl ⟨rfl, xs, SqL.of g3⟩, .ref b, y1, .inl ⟨rfl, ys, SqL.of y3⟩, h2 ap H0 B0 B σ env H p _ _ p' k e1 fun B1 H1 v n1 hp1 r1 => ?_⟩
        have k1 := k.nxt n1 hp1
        simp only [Rep] at r1
        obtain ⟨w, w1, w2⟩ := y4.get zy
        obtain ⟨i1, i2, i3, i4⟩ := ixN_seq z
        have hyb : H1 b = some (.lst ys) := n1.fr _ _ y3 napb
        refine ⟨b, ys, n, kk, w, rfl, by rw [r1], hyb, by omega, by omega, by rw [y4.length]; exact i1, w1, ?_⟩
        have k2 := k1.mut gy y1 (Reps.erase kk (y4.mono n1.bb))
        have g' : (env.set j (.own (es'.eraseIdx kk)))[i]? = some (.own ds) := by rw [List.getElem?_set_ne (fun z => hij z.symm)]; exact g
        refine ⟨a, xs, w, rfl, rfl, by rw [upd_ne hab]; exact n1.fr _ _ g3 nap, Nat.lt_of_le_of_lt (by rw [g4.length]; exact hz1) (by rw [sizeLine_eq]; decide), ?_⟩
        exact q B1 σ _ n1.bb (k2.mut g' g1 ((g4.mono n1.bb).append (reps_cons (w2.mono n1.bb) reps_nil)))
end
end DL
end

section
set_option Elab.async false
set_option linter.all false
set_option maxRecDepth 100000
set_option maxHeartbeats 4000000
/-! DL: two names at once with new lists; two items exchanged. -/
namespace DL
open PySem PySem.Spec PyProof.Rows L2
open Evl (Ex)
section
variable {cs : CT} {X : Cx} {e a b c : Expr} {es : List Expr} {m ma mb mc : Env' → Mo D} {oa ob : Env' → Mo (List D)} {pos : Pos}
/-- a new list, put into a slot -/
theorem Ok.setNew {K : PySem.W.Frag} {ap : Addr} {H0 B0 B H B1 H1 : Hp} {σ : L2.St} {env : Env'} {p p1 : Pt} (k : Ok K cs ap H0 B0 B σ env H p) (n : Nxt ap B H B1 H1) (k1 : Ok K cs ap H0 B0 B1 σ env H1 p1) {i : Nat} {ds : List D} {a : Addr} {xs : List V} (hi : i < env.length) (hn : H a = none) (hb : B1 a = none) (hh : H1 a = some (.lst xs)) (r : Reps K cs ap B1 ds xs) : Ok K cs ap H0 B0 B1 (σ.set i (some (.ref a))) (env.set i (.own ds)) H1 p1 := by
  have h0 : H0 a = none := by
    cases z : H0 a with
    | none => rfl
    | some o => exact absurd hn (k.st.nn a (by rw [z]; exact fun y => nomatch y))
  refine k1.seto hi hb hh r h0 fun j es hj hj' g => ?_
  obtain ⟨b, ys, g1, g2, g3, g4⟩ := k.sl j _ hj'
  rw [g] at g1
  cases g1
  rw [hn] at g3
  cases g3
theorem pot_ne {ap a : Addr} {H : Hp} {p : Pt} (h : PotAt ap H p) (hn : H a = none) : a ≠ ap := fun z => by
  unfold PotAt at h
  rw [← z, hn] at h
  cases h
def mParOO (i j : Nat) (oa ob : Env' → Mo (List D)) : MS := fun env => bindM (oa env) fun ds => bindM (ob env) fun es => if i < env.length ∧ j < env.length ∧ i ≠ j then retM (.nx, (env.set i (.own ds)).set j (.own es)) else failM
def mParOV (i j : Nat) (oa : Env' → Mo (List D)) (mb : Env' → Mo D) : MS := fun env => bindM (oa env) fun ds => bindM (mb env) fun d => if i < env.length then retM (.nx, (env.set i (.own ds)).set j (.val d)) else failM
def mParVO (i j : Nat) (ma : Env' → Mo D) (ob : Env' → Mo (List D)) : MS := fun env => bindM (ma env) fun d => bindM (ob env) fun es => if j < env.length then retM (.nx, (env.set i (.val d)).set j (.own es)) else failM
theorem s_parOO (i j : Nat) {x y : Str} {px py pt : Pos} {kt k2 pt2} (hc : X.calm = true) (hN : X.N.Nodup) (ha : POD cs X a oa) (hb : POD cs X b ob) (hw : swappedStores [.Tuple [.Name x px, .Name y py] kt pt] (.Tuple [a, b] k2 pt2) X.env = pure (some [x, y]))
    (hi : X.N[i]? = some x := by rfl) (hj : X.N[j]? = some y := by rfl) (hij : i ≠ j := by decide) (hx : X.env.scope.names.lookup x = some .local := by rfl) (hy : X.env.scope.names.lookup y = some .local := by rfl)
    (hs : swapsWithSole [.Tuple [.Name x px, .Name y py] kt pt] (.Tuple [a, b] k2 pt2) pos.line X.env = pure false := by rfl) (h1 : starEach [a, b] X.env = (false, eval a X.env) :: starEach [b] X.env := by rfl) (h2 : starEach [b] X.env = (false, eval b X.env) :: starEach [] X.env := by rfl) : PSD cs X (.Assign [.Tuple [.Name x px, .Name y py] kt pt] (.Tuple [a, b] k2 pt2) pos) (mParOO i j oa ob) := by
  obtain ⟨ta, a1, a2⟩ := ha.ex
  obtain ⟨tb, b1, b2⟩ := hb.ex
  refine ⟨_, ps_par hc hN hi hj hij hx hy (L2.pa_cons a1 (L2.pa_cons b1 L2.pa_nil h2) h1) hw hs, fun ap H0 B0 B σ env H p E o env' p' k hm q => ?_⟩
  obtain ⟨ds, p1, e1, e2⟩ := bindM_some hm
  obtain ⟨es', p2, e3, e4⟩ := bindM_some e2
  split at e4
  case isFalse => cases e4
  rename_i hl
  cases e4
  refine a2 ap H0 B0 B σ env H p _ ds p1 k e1 fun B1 H1 u xs n1 hp1 hn1 hb1 hh1 r1 => ?_
  have k1 := k.nxt n1 hp1
  refine b2 ap H0 B0 B1 σ env H1 p1 _ es' p' k1 e3 fun B2 H2 v ys n2 hp2 hn2 hb2 hh2 r2 => ?_
  have k2 := k1.nxt n2 hp2
  have nap : u ≠ ap := pot_ne k.pot hn1
  have huv : u ≠ v := fun z => by rw [z, hn2] at hh1; cases hh1
  have g1 := Ok.setNew k (n1.trans n2) k2 hl.1 hn1 (n2.nw u (by rw [hh1]; exact fun y => nomatch y) hb1) (n2.fr _ _ hh1 nap) (r1.mono n2.bb)
  have h0 : H0 v = none := by
    cases z : H0 v with
    | none => rfl
    | some o => exact absurd hn2 (k1.st.nn v (by rw [z]; exact fun y => nomatch y))
  refine ⟨.ref u, .ref v, rfl, q B2 _ H2 (n1.bb.trans n2.bb) (g1.seto (by rw [List.length_set]; exact hl.2.1) hb2 hh2 r2 h0 fun l es2 hl2 hl' g => ?_)⟩
  by_cases hli : i = l
  · subst hli
    rw [List.getElem?_set_self (by rw [k.len]; exact hl.1)] at g
    cases g
    exact huv rfl
  · rw [List.getElem?_set_ne hli] at g hl'
    obtain ⟨t, zs, g1, g2, g3, g4⟩ := k1.sl l _ hl'
    rw [g] at g1
    cases g1
    rw [hn2] at g3
    cases g3
theorem s_parOV (i j : Nat) {x y : Str} {px py pt : Pos} {kt k2 pt2} (hc : X.calm = true) (hN : X.N.Nodup) (ha : POD cs X a oa) (hb : PED cs X b mb) (hw : swappedStores [.Tuple [.Name x px, .Name y py] kt pt] (.Tuple [a, b] k2 pt2) X.env = pure (some [x, y]))
    (hi : X.N[i]? = some x := by rfl) (hj : X.N[j]? = some y := by rfl) (hij : i ≠ j := by decide) (hx : X.env.scope.names.lookup x = some .local := by rfl) (hy : X.env.scope.names.lookup y = some .local := by rfl)
    (hs : swapsWithSole [.Tuple [.Name x px, .Name y py] kt pt] (.Tuple [a, b] k2 pt2) pos.line X.env = pure false := by rfl) (h1 : starEach [a, b] X.env = (false, eval a X.env) :: starEach [b] X.env := by rfl) (h2 : starEach [b] X.env = (false, eval b X.env) :: starEach [] X.env := by rfl) : PSD cs X (.Assign [.Tuple [.Name x px, .Name y py] kt pt] (.Tuple [a, b] k2 pt2) pos) (mParOV i j oa mb) := by
  obtain ⟨ta, a1, a2⟩ := ha.ex
  obtain ⟨tb, b1, b2⟩ := hb.ex
  refine ⟨_, ps_par hc hN hi hj hij hx hy (L2.pa_cons a1 (L2.pa_cons b1 L2.pa_nil h2) h1) hw hs, fun ap H0 B0 B σ env H p E o env' p' k hm q => ?_⟩
  obtain ⟨ds, p1, e1, e2⟩ := bindM_some hm
  obtain ⟨d, p2, e3, e4⟩ := bindM_some e2
  split at e4
  case isFalse => cases e4
  rename_i hl
  cases e4
  refine a2 ap H0 B0 B σ env H p _ ds p1 k e1 fun B1 H1 u xs n1 hp1 hn1 hb1 hh1 r1 => ?_
  have k1 := k.nxt n1 hp1
  refine b2 ap H0 B0 B1 σ env H1 p1 _ d p' k1 e3 fun B2 H2 v n2 hp2 r2 => ?_
  have k2 := k1.nxt n2 hp2
  have nap : u ≠ ap := pot_ne k.pot hn1
  have g1 := Ok.setNew k (n1.trans n2) k2 hl hn1 (n2.nw u (by rw [hh1]; exact fun y => nomatch y) hb1) (n2.fr _ _ hh1 nap) (r1.mono n2.bb)
  exact ⟨.ref u, v, rfl, q B2 _ H2 (n1.bb.trans n2.bb) (g1.setv' r2)⟩
theorem s_parVO (i j : Nat) {x y : Str} {px py pt : Pos} {kt k2 pt2} (hc : X.calm = true) (hN : X.N.Nodup) (ha : PED cs X a ma) (hb : POD cs X b ob) (hw : swappedStores [.Tuple [.Name x px, .Name y py] kt pt] (.Tuple [a, b] k2 pt2) X.env = pure (some [x, y]))
    (hi : X.N[i]? = some x := by rfl) (hj : X.N[j]? = some y := by rfl) (hij : i ≠ j := by decide) (hx : X.env.scope.names.lookup x = some .local := by rfl) (hy : X.env.scope.names.lookup y = some .local := by rfl)
    (hs : swapsWithSole [.Tuple [.Name x px, .Name y py] kt pt] (.Tuple [a, b] k2 pt2) pos.line X.env = pure false := by rfl) (h1 : starEach [a, b] X.env = (false, eval a X.env) :: starEach [b] X.env := by rfl) (h2 : starEach [b] X.env = (false, eval b X.env) :: starEach [] X.env := by rfl) : PSD cs X (.Assign [.Tuple [.Name x px, .Name y py] kt pt] (.Tuple [a, b] k2 pt2) pos) (mParVO i j ma ob) := by
  obtain ⟨ta, a1, a2⟩ := ha.ex
  obtain ⟨tb, b1, b2⟩ := hb.ex
  refine ⟨_, ps_par hc hN hi hj hij hx hy (L2.pa_cons a1 (L2.pa_cons b1 L2.pa_nil h2) h1) hw hs, fun ap H0 B0 B σ env H p E o env' p' k hm q => ?_⟩
  obtain ⟨d, p1, e1, e2⟩ := bindM_some hm
  obtain ⟨es', p2, e3, e4⟩ := bindM_some e2
  split at e4
  case isFalse => cases e4
  rename_i hl
  cases e4
  refine a2 ap H0 B0 B σ env H p _ d p1 k e1 fun B1 H1 u n1 hp1 r1 => ?_
  have k1 := k.nxt n1 hp1
  refine b2 ap H0 B0 B1 σ env H1 p1 _ es' p' k1 e3 fun B2 H2 v ys n2 hp2 hn2 hb2 hh2 r2 => ?_
  have k2 := k1.nxt n2 hp2
  have h0 : H0 v = none := by
    cases z : H0 v with
    | none => rfl
    | some o => exact absurd hn2 (k1.st.nn v (by rw [z]; exact fun y => nomatch y))
  refine ⟨u, .ref v, rfl, q B2 _ H2 (n1.bb.trans n2.bb) ((k2.setv' (i := i) (r1.mono n2.bb)).seto (by rw [List.length_set]; exact hl) hb2 hh2 r2 h0 fun l es2 hl2 hl' g => ?_)⟩
  by_cases hli : i = l
  · subst hli
    by_cases hii : i < env.length
    · rw [List.getElem?_set_self hii] at hl'
      cases hl'
    · rw [List.getElem?_eq_none (by rw [List.length_set]; omega)] at hl'
      cases hl'
  · rw [List.getElem?_set_ne hli] at g hl'
    obtain ⟨t, zs, g1, g2, g3, g4⟩ := k1.sl l _ hl'
    rw [g] at g1
    cases g1
    rw [hn2] at g3
    cases g3
def mPar3 (i j l : Nat) (m : Env' → Mo (List D)) : MS := fun env => bindM (m env) fun ds => match ds with
  | [d, e, f] => retM (.nx, ((env.set i (.val d)).set j (.val e)).set l (.val f))
  | _ => failM
theorem s_par3 (i j l : Nat) {x y z : Str} {c : Expr} {px py pz pt : Pos} {kt k2 pt2} {m : Env' → Mo (List D)} (hc : X.calm = true) (hN : X.N.Nodup) (ha : PAD cs X [a, b, c] m) (hw : swappedStores [.Tuple [.Name x px, .Name y py, .Name z pz] kt pt] (.Tuple [a, b, c] k2 pt2) X.env = pure (some [x, y, z]))
    (hi : X.N[i]? = some x := by rfl) (hj : X.N[j]? = some y := by rfl) (hl : X.N[l]? = some z := by rfl) (hij : i ≠ j := by decide) (hil : i ≠ l := by decide) (hjl : j ≠ l := by decide) (hx : X.env.scope.names.lookup x = some .local := by rfl) (hy : X.env.scope.names.lookup y = some .local := by rfl) (hz : X.env.scope.names.lookup z = some .local := by rfl)
    (hs : swapsWithSole [.Tuple [.Name x px, .Name y py, .Name z pz] kt pt] (.Tuple [a, b, c] k2 pt2) pos.line X.env = pure false := by rfl) : PSD cs X (.Assign [.Tuple [.Name x px, .Name y py, .Name z pz] kt pt] (.Tuple [a, b, c] k2 pt2) pos) (mPar3 i j l m) := by
  obtain ⟨t, a1, a2⟩ := ha.ex
  refine ⟨_, ps_par3 hc hN hi hj hl hij hil hjl hx hy hz a1 hw hs, fun ap H0 B0 B σ env H p E o env' p' k hm q => ?_⟩
  obtain ⟨ds, p1, e1, e2⟩ := bindM_some hm
  split at e2
  · rename_i d e f
    cases e2
    refine a2 ap H0 B0 B σ env H p _ _ p' k e1 fun B' H' vs n hp r => ?_
    simp only [Reps] at r
    obtain ⟨v, _, rfl, r1, w, _, rfl, r2, u, _, rfl, r3, rfl⟩ := r
    exact ⟨v, w, u, rfl, q B' _ H' n.bb ((((k.nxt n hp).setv' r1).setv' r2).setv' r3)⟩
  · cases e2
/-! ### xs[i], xs[j] = a, b -/
def mSwap (i ji jj : Nat) (m : Env' → Mo D) : MS := fun env => bindM (m env) fun d => match env[i]?, env[ji]?, env[jj]?, d with
  | some (.own ds), some (.val (.int n)), some (.val (.int l)), .tup [x, y] => match ixN ds.length n, ixN ds.length l with
    | some k1, some k2 => retM (.nx, env.set i (.own ((ds.set k1 x).set k2 y)))
    | _, _ => failM
  | _, _, _, _ => failM
theorem s_swap (i ji jj : Nat) {x y z : Str} {p1 p2 p3 p4 t1 t2 tp : Pos} {kk} (hc : X.calm = true) (h : PED cs X e m) (hN : X.N[i]? = some x := by rfl) (hNi : X.N[ji]? = some y := by rfl) (hNj : X.N[jj]? = some z := by rfl)
    (hv : Vis X.env.scope x := by first | exact Or.inl rfl | exact Or.inr (Or.inl rfl) | exact Or.inr (Or.inr rfl)) (hvy : Vis X.env.scope y := by first | exact Or.inl rfl | exact Or.inr (Or.inl rfl) | exact Or.inr (Or.inr rfl)) (hvz : Vis X.env.scope z := by first | exact Or.inl rfl | exact Or.inr (Or.inl rfl) | exact Or.inr (Or.inr rfl))
    (hd : (x == ("__debug__" : Str)) = false := by decide) (hcd : (x == ("__classdict__" : Str)) = false := by decide) (hdy : (y == ("__debug__" : Str)) = false := by decide) (hcdy : (y == ("__classdict__" : Str)) = false := by decide) (hdz : (z == ("__debug__" : Str)) = false := by decide) (hcdz : (z == ("__classdict__" : Str)) = false := by decide)
    (ha1 : ∀ v, assign (.Subscript (.Name x p1) (.Name y p2) t1) X.env v = (do let ov ← holding [v] (eval (.Name x p1) X.env); let iv ← holding [v, ov] (eval (.Name y p2) X.env); standAt t1; holding [v, ov, iv] (setItem ov iv v); release [v, ov, iv] []) := by intro _; rfl)
    (ha2 : ∀ v, assign (.Subscript (.Name x p3) (.Name z p4) t2) X.env v = (do let ov ← holding [v] (eval (.Name x p3) X.env); let iv ← holding [v, ov] (eval (.Name z p4) X.env); standAt t2; holding [v, ov, iv] (setItem ov iv v); release [v, ov, iv] []) := by intro _; rfl)
    (hs : swapsWithSole [.Tuple [.Subscript (.Name x p1) (.Name y p2) t1, .Subscript (.Name x p3) (.Name z p4) t2] kk tp] e pos.line X.env = pure false := by rfl) (hw : swappedStores [.Tuple [.Subscript (.Name x p1) (.Name y p2) t1, .Subscript (.Name x p3) (.Name z p4) t2] kk tp] e X.env = pure none := by rfl)
    (h1 : (assignEach [.Tuple [.Subscript (.Name x p1) (.Name y p2) t1, .Subscript (.Name x p3) (.Name z p4) t2] kk tp] X.env).map (·.2) = [assign (.Tuple [.Subscript (.Name x p1) (.Name y p2) t1, .Subscript (.Name x p3) (.Name z p4) t2] kk tp) X.env] := by rfl)
    (h2 : (assignEach [.Subscript (.Name x p1) (.Name y p2) t1, .Subscript (.Name x p3) (.Name z p4) t2] X.env).map (·.2) = assign (.Subscript (.Name x p1) (.Name y p2) t1) X.env :: (assignEach [.Subscript (.Name x p3) (.Name z p4) t2] X.env).map (·.2) := by rfl)
    (h3 : (assignEach [.Subscript (.Name x p3) (.Name z p4) t2] X.env).map (·.2) = assign (.Subscript (.Name x p3) (.Name z p4) t2) X.env :: (assignEach [] X.env).map (·.2) := by rfl)
    (hn : (assignEach [.Subscript (.Name x p1) (.Name y p2) t1, .Subscript (.Name x p3) (.Name z p4) t2] X.env).length = 2 := by rfl) (hst : (assignEach [.Subscript (.Name x p1) (.Name y p2) t1, .Subscript (.Name x p3) (.Name z p4) t2] X.env).findIdx? (·.1) = none := by rfl) :
    PSD cs X (.Assign [.Tuple [.Subscript (.Name x p1) (.Name y p2) t1, .Subscript (.Name x p3) (.Name z p4) t2] kk tp] e pos) (mSwap i ji jj m) := by
  obtain ⟨te, a1, a2⟩ := h.ex
  refine ⟨_, ps_asg a1 (pg_tup hc (pgs_cons (pg_sub (pe_var hN hv hd hcd) (pe_var hNi hvy hdy hcdy) set_list ha1) (pgs_cons (pg_sub (pe_var hN hv hd hcd) (pe_var hNj hvz hdz hcdz) set_list ha2) pgs_nil h3) h2) hn hst) hs hw h1, fun ap H0 B0 B σ env H p E o env' p' k hm q => ?_⟩
  obtain ⟨d, q1, e1, e2⟩ := bindM_some hm
  obtain ⟨ds, g⟩ : ∃ ds, env[i]? = some (.own ds) := by
    rcases g : env[i]? with _ | _ | _ | ds | _
    · rw [g] at e2; cases e2
    · rw [g] at e2; cases e2
    · rw [g] at e2; cases e2
    · exact ⟨ds, rfl⟩
    · rw [g] at e2; cases e2
  rw [g] at e2
  obtain ⟨n, gi⟩ : ∃ n, env[ji]? = some (.val (.int n)) := by
    rcases gi : env[ji]? with _ | _ | d' | ds | _
    · rw [gi] at e2; cases e2
    · rw [gi] at e2; cases e2
    · rw [gi] at e2
      cases d' <;> first | (cases e2; done) | skip
      rename_i n
      exact ⟨n, rfl⟩
    · rw [gi] at e2; cases e2
    · rw [gi] at e2; cases e2
  rw [gi] at e2
  obtain ⟨l, gj⟩ : ∃ n, env[jj]? = some (.val (.int n)) := by
    rcases gj : env[jj]? with _ | _ | d' | ds | _
    · rw [gj] at e2; cases e2
    · rw [gj] at e2; cases e2
    · rw [gj] at e2
      cases d' <;> first | (cases e2; done) | skip
      rename_i n
      exact ⟨n, rfl⟩
    · rw [gj] at e2; cases e2
    · rw [gj] at e2; cases e2
  rw [gj] at e2
  obtain ⟨x', y', rfl⟩ : ∃ x y, d = .tup [x, y] := by
    cases d <;> first | (cases e2; done) | skip
    rename_i ws
    rcases ws with _ | ⟨x', _ | ⟨y', _ | ⟨z', ws⟩⟩⟩
    · cases e2
    · cases e2
    · exact ⟨x', y', rfl⟩
    · cases e2
  replace e2 : (match ixN ds.length n, ixN ds.length l with
    | some k1, some k2 => (retM (Out.nx, env.set i (SV.own ((ds.set k1 x').set k2 y'))) : Mo (Out × Env'))
    | _, _ => failM) q1 = some ((o, env'), p') := e2
  rcases z1 : ixN ds.length n with _ | k1
  · rw [z1] at e2; cases e2
  rcases z2 : ixN ds.length l with _ | k2
  · rw [z1, z2] at e2; cases e2
  rw [z1, z2] at e2
  cases e2
  obtain ⟨t, xs, g1, g2, g3, g4⟩ := k.sl i _ g
  have nap : t ≠ ap := fun z => k.hap (z ▸ k.ownNew i ds t g g1)
  obtain ⟨vi, i1, i2⟩ := k.sl ji _ gi
  obtain ⟨vj, j1, j2⟩ := k.sl jj _ gj
  simp only [Rep] at i2 j2
  subst i2 j2
  refine a2 ap H0 B0 B σ env H p _ _ p' k e1 fun B1 H1 v n1 hp1 r1 => ?_
  have kk1 := k.nxt n1 hp1
  simp only [Rep] at r1
  obtain ⟨u, ws, rfl, u1, u2⟩ := r1
  simp only [Reps] at u2
  obtain ⟨w1, _, rfl, r2, w2, _, rfl, r3, rfl⟩ := u2
  have hh : H1 t = some (.lst xs) := n1.fr _ _ g3 nap
  refine ⟨u, [w1, w2], rfl, Evl.ex_t kk1.bh u1, rfl, w1, [w2], rfl, .ref t, g1, .int n, i1, t, xs, n, k1, rfl, rfl, hh, by rw [g4.length]; exact z1, ?_⟩
  have kk2 := kk1.mut g g1 (Reps.set r2 k1 (g4.mono n1.bb))
  have g5 : (env.set i (.own (ds.set k1 x')))[i]? = some (.own (ds.set k1 x')) := List.getElem?_set_self (List.getElem?_eq_some_iff.mp g).1
  refine ⟨w2, [], rfl, .ref t, g1, .int l, j1, t, xs.set k1 w1, l, k2, rfl, rfl, upd_same, by rw [List.length_set, g4.length]; exact z2, rfl, ?_⟩
  have kk3 := kk2.mut g5 g1 (Reps.set r3 k2 (Reps.set r2 k1 (g4.mono n1.bb)))
  rw [List.set_set] at kk3
  exact q B1 σ _ n1.bb kk3
end
end DL
end

section
set_option Elab.async false
set_option linter.all false
set_option maxRecDepth 100000
set_option maxHeartbeats 4000000
/-! DL: != between two instances. -/
namespace DL
open PySem PySem.Spec PyProof.Rows L2
open Evl (Ex)
/-- a class without an own != -/
def neB (K : PySem.W.Frag) (C : Addr) : Bool := He.eqO (PySem.W.findIn K (.ref C) "__ne__") (some (some (.builtin "object.__ne__"))) && ob (PySem.W.mroIn K C (.type "object")) true
def tNe (x : Str) : Fr' → Bool := fun K => neB K (He.ga K x)
theorem neB_ok {K : PySem.W.Frag} {C : Addr} (h : neB K C = true) : PySem.W.findIn K (.ref C) "__ne__" = some (some (.builtin "object.__ne__")) ∧ PySem.W.mroIn K C (.type "object") = some true := by
  unfold neB at h
  rw [Bool.and_eq_true] at h
  exact ⟨He.eqO_ok h.1, of_decide_eq_true h.2⟩
def neAll (K : Fr') (l : List (Addr × List Str)) : Bool := l.all fun p => neB K p.1
theorem neAll_ok {K : Fr'} {l : List (Addr × List Str)} (h : neAll K l = true) : ∀ c C fn, csL l c = some (C, fn) → neB K C = true := fun c C fn e => by
  unfold neAll at h
  rw [List.all_eq_true] at h
  exact h (C, fn) (List.mem_of_getElem? e)
def dNeI (u : Nat → List D → List D → Option Bool) (ne : Bool) : D → D → Mo D := fun x y => match ne, x, y with
  | true, .ins c fs, .ins c' gs => if c = c' then match u c fs gs with
    | some b => retM (.bl (!b))
    | none => failM else failM
  | _, _, _ => failM
section
variable {X : Cx} {cs : CT}
def rNeI (X : Cx) (cs : CT) (u : Nat → List D → List D → Option Bool) (ne : Bool) : R2 := fun v w H Q =>
  ∃ ap B p c fs gs b, ne = true ∧ Ex B H ∧ PotAt ap H p ∧ B ap = none ∧ Rep X.K cs ap B (.ins c fs) v ∧ Rep X.K cs ap B (.ins c gs) w ∧ u c fs gs = some b ∧
    ∀ B' H', Nxt ap B H B' H' → PotAt ap H' p → Q (.bl (!b)) H'
theorem opR_neI {k : Nat} {u : Nat → List D → List D → Option Bool} (U : UEq X cs k u) (hne : ∀ c C fn, cs c = some (C, fn) → neB X.K C = true) (hr : Room (k + 1) X.A) (ne : Bool) : OpR X (compareOp (DQ.opC ne)) (rNeI X cs u ne) := by
  intro pins s σ H v w v' w' Q I rv rw' h
  obtain ⟨ap, B, p, c, fs, gs, b, rfl, e, hp, hb, rx, ry, hq, q⟩ := h
  have sb0 : Sub X (k + 1) X.A := ⟨hr, rfl⟩
  have sb : Sub X k X.A.in1 := sb0.in1
  obtain ⟨C, fn, f', fd, ps, fm, T, hs, hf, F, hbd, hfm⟩ := U.of c fs gs b hq
  obtain ⟨n1, n2⟩ := neB_ok (hne _ _ _ T.at_)
  obtain ⟨a', dx, fs', rfl, g1, g2, g3⟩ := rep_ins T rx
  obtain ⟨b', dy, gs', rfl, k1, k2, k3⟩ := rep_ins T ry
  cases rv
  cases rw'
  obtain ⟨mA, J, _⟩ := ins_get I.hok (e _ _ g1)
  obtain ⟨mB, J', _⟩ := ins_get I.hok (e _ _ k1)
  obtain ⟨od, J, _⟩ := J.look
  obtain ⟨od', J', _⟩ := J'.look
  obtain ⟨m, hF⟩ := I.fr
  show wpAny (model X.prog X.w) X.A (richCompare .NotEq (.ref a') (.ref b')) (EP X pins σ Q) X.xe s
  refine PySem.W.cmpNe_K (tb := .ref C) sb.room.units0 hF I.ok.mod.kin J J'.type (by simp [PySem.W.notFirst]) n1 n2 hs hf ?_
  have hsp : spD X.K cs 2 fm [.ref a', .ref b'] H (fun v H' => v = .bl b ∧ ∃ B', Nxt ap B H B' H' ∧ PotAt ap H' p) E0 := ⟨ap, B, _, p, _, p, rfl, e, hp, hb, reps_cons rx (reps_cons ry reps_nil), hfm p, fun B' H' v n hp' r' => by
    simp only [Rep] at r'
    exact ⟨r', B', n, hp'⟩⟩
  have e0 : Env0 X.prog X.w X.K X.mg X.base X.A.in1 X.stack s H := by
    have z := I.env0
    exact ⟨by rw [sb.fr]; exact z.frames, z.mod, z.bs, z.bsz, z.funs, z.frf, z.hok, z.bare⟩
  have hl := F.len _ _ _ _ hsp
  have r2 : Vals [V.ref a', V.ref b'] [Value.ref a', Value.ref b'] := .cons rfl (.cons rfl .nil)
  refine wpAny_call (codeAny_mono (F.run X.A.in1 X.stack s H ⟨[.ref a', .ref b'], []⟩ [.ref a', .ref b'] [.ref a', .ref b'] _ E0 sb.room (fun z => nomatch z) e0 (by
    have := hbd s [.ref a', .ref b'] I.kIn (by simpa using hl)
    simpa using this) r2 hsp) fun r s' hq => ?_)
  cases r with
  | error e => exact hq.elim
  | ok fl =>
    cases fl with
    | ret w =>
      obtain ⟨z, H', I', rz, ez, B', n', hp'⟩ := I.after hq
      subst ez
      cases rz
      exact ⟨b, rfl, .bl (!b), H', I', rfl, q B' H' n' hp'⟩
    | next => exact hq.elim
    | brk => exact hq.elim
    | cont => exact hq.elim
theorem opD_neI {k : Nat} {u : Nat → List D → List D → Option Bool} (U : UEq X cs k u) (hne : ∀ c C fn, cs c = some (C, fn) → neB X.K C = true) (hr : Room (k + 1) X.A) (ne : Bool) : OpD cs X (compareOp (DQ.opC ne)) (dNeI u ne) := by
  refine ⟨_, opR_neI U hne hr ne, fun ap B H p x y v w Q d p' e hp hb rx ry hm q => ?_⟩
  unfold dNeI at hm
  split at hm
  · rename_i c fs c' gs
    split at hm
    · rename_i hc
      subst hc
      rcases hb' : u c fs gs with _ | r
      · rw [hb'] at hm; cases hm
      · rw [hb'] at hm
        cases hm
        exact ⟨ap, B, p, c, fs, gs, r, rfl, e, hp, hb, rx, ry, hb', fun B' H' n' hp' => q B' H' _ n' hp' (by simp only [Rep])⟩
    · cases hm
  · cases hm
end
end DL
end

section
set_option Elab.async false
set_option linter.all false
set_option maxRecDepth 100000
set_option maxHeartbeats 4000000
namespace Q
open PySem PySem.Spec PyProof.Rows L2 DL
def top (i : Nat) : Stmt := PySem.Challenge.pw_sheetdeals_k42_any_value_as_deal_and_pla.main.body.getD i (.Pass ⟨0, 0, 0, 0⟩)
def clL (K : Fr') : List (Addr × List Str) := [(He.ga K "Ratio", ["own_top", "own_bottom"])]
def csK (K : Fr') : CT := csL (clL K)
def ex0 : List (Fr' → Bool) := [tFree "len", tFree "range", tFree "abs", tFree "max", tFree "min", tFree "int", tFree "repr", tFree "all", tFree "any", tFree "list", tFree "tuple", tFree "str", tFree "isinstance", tFree "enumerate", tFree "zip", tFree "divmod", tFree "bool", tFree "sorted", tFree "sum", tFree "dict", tFree "set", tFree "type", tGlo "_wall", tGlo "BendError", tGlo "InvalidNumber", tGlo "InvalidPrime", tGlo "InvalidDeal", tGlo "InvalidPlay", tGlo "is_integer", tGlo "is_count"]
def ex1 : List (Fr' → Bool) := [tGlo "is_list", tGlo "digits_of", tGlo "common_part", tGlo "Ratio", tGlo "told_pair", tGlo "want_prime", tGlo "undone_rest", tGlo "places", tGlo "spot_of", tGlo "is_deal_of", tGlo "behind_table", tGlo "is_dealt", tGlo "want_deal", tGlo "is_deal", tGlo "are_values", tGlo "is_move", tGlo "is_played", tGlo "want_play", tGlo "moved_place", tGlo "move_deal", tGlo "deal_by", tGlo "contrary_move", tGlo "contrary_of", tGlo "is_play", tGlo "play_deal", tGlo "contrary_play", tGlo "is_play_for", tGlo "_law_pot", tGlo "_law_draw", tGlo "_law_pick"]
def ex2 : List (Fr' → Bool) := [tGlo "_law_mixed", tGlo "_law_is_count", tGlo "_law_is_deal", tGlo "_law_is_move", tGlo "_law_is_play", tGlo "_law_moved", tGlo "_law_played", tGlo "_law_undone", tGlo "_law_move", tGlo "_law_bent_move", tGlo "_law_bent_play", tGlo "_law_deals_right", tGlo "_law_plays_right", tGlo "_law_long_right", tGlo "_law_right", tGlo "law", tBi "gcd" "math.gcd", tInt "PART" 1000000000000000000000000000000000000000000000000000000000000, tTupI "PRIMES" [3, 5, 7, 11], tInt "MOST_MOVES" 1500, tStr "COLUMNS" "y", tStr "ROWS" "x", tStr "TURN" "turn", tCls "Ratio", tNoat "Ratio" "own_top", tNoat "Ratio" "own_bottom", tMkr "Ratio", tMeth "Ratio" "__add__", tMeth "Ratio" "__sub__", tMeth "Ratio" "__mul__"]
def ex3 : List (Fr' → Bool) := [tMeth "Ratio" "__eq__", tMeth "Ratio" "__repr__", (fun K => opfB K (He.ga K "Ratio") (He.ma K (He.ga K "Ratio") "__add__") .Add), (fun K => opfB K (He.ga K "Ratio") (He.ma K (He.ga K "Ratio") "__sub__") .Sub), (fun K => opfB K (He.ga K "Ratio") (He.ma K (He.ga K "Ratio") "__mul__") .Mult), (fun K => neAll K (clL K)), (fun K => isiB K (clL K)), (fun K => injB (clL K))]
def ex : List (Fr' → Bool) := ex0 ++ (ex1 ++ (ex2 ++ (ex3)))
def z_is_integer : DefZ := ⟨fun K => He.ga K "is_integer", "is_integer", "is_integer", defArgs (top 9), defBody (top 9), defScope (top 9), []⟩
def z_is_count : DefZ := ⟨fun K => He.ga K "is_count", "is_count", "is_count", defArgs (top 10), defBody (top 10), defScope (top 10), []⟩
def z_is_list : DefZ := ⟨fun K => He.ga K "is_list", "is_list", "is_list", defArgs (top 11), defBody (top 11), defScope (top 11), []⟩
def z_digits_of : DefZ := ⟨fun K => He.ga K "digits_of", "digits_of", "digits_of", defArgs (top 14), defBody (top 14), defScope (top 14), []⟩
def z_common_part : DefZ := ⟨fun K => He.ga K "common_part", "common_part", "common_part", defArgs (top 15), defBody (top 15), defScope (top 15), []⟩
def z_Ratio___init__ : DefZ := ⟨fun K => He.ma K (He.ga K "Ratio") "__init__", "__init__", "Ratio.__init__", defArgs (inClass (top 16) 0), defBody (inClass (top 16) 0), defScope (inClass (top 16) 0), [.int 1]⟩
def z_Ratio___add__ : DefZ := ⟨fun K => He.ma K (He.ga K "Ratio") "__add__", "__add__", "Ratio.__add__", defArgs (inClass (top 16) 6), defBody (inClass (top 16) 6), defScope (inClass (top 16) 6), []⟩
def z_Ratio___sub__ : DefZ := ⟨fun K => He.ma K (He.ga K "Ratio") "__sub__", "__sub__", "Ratio.__sub__", defArgs (inClass (top 16) 8), defBody (inClass (top 16) 8), defScope (inClass (top 16) 8), []⟩
def z_Ratio___mul__ : DefZ := ⟨fun K => He.ma K (He.ga K "Ratio") "__mul__", "__mul__", "Ratio.__mul__", defArgs (inClass (top 16) 10), defBody (inClass (top 16) 10), defScope (inClass (top 16) 10), []⟩
def z_Ratio___eq__ : DefZ := ⟨fun K => He.ma K (He.ga K "Ratio") "__eq__", "__eq__", "Ratio.__eq__", defArgs (inClass (top 16) 17), defBody (inClass (top 16) 17), defScope (inClass (top 16) 17), []⟩
def z_Ratio___repr__ : DefZ := ⟨fun K => He.ma K (He.ga K "Ratio") "__repr__", "__repr__", "Ratio.__repr__", defArgs (inClass (top 16) 19), defBody (inClass (top 16) 19), defScope (inClass (top 16) 19), []⟩
def z_told_pair : DefZ := ⟨fun K => He.ga K "told_pair", "told_pair", "told_pair", defArgs (top 17), defBody (top 17), defScope (top 17), []⟩
def z_want_prime : DefZ := ⟨fun K => He.ga K "want_prime", "want_prime", "want_prime", defArgs (top 20), defBody (top 20), defScope (top 20), []⟩
def z_undone_rest : DefZ := ⟨fun K => He.ga K "undone_rest", "undone_rest", "undone_rest", defArgs (top 21), defBody (top 21), defScope (top 21), []⟩
def z_places : DefZ := ⟨fun K => He.ga K "places", "places", "places", defArgs (top 22), defBody (top 22), defScope (top 22), []⟩
def z_spot_of : DefZ := ⟨fun K => He.ga K "spot_of", "spot_of", "spot_of", defArgs (top 23), defBody (top 23), defScope (top 23), []⟩
def z_is_deal_of : DefZ := ⟨fun K => He.ga K "is_deal_of", "is_deal_of", "is_deal_of", defArgs (top 24), defBody (top 24), defScope (top 24), []⟩
def z_behind_table : DefZ := ⟨fun K => He.ga K "behind_table", "behind_table", "behind_table", defArgs (top 25), defBody (top 25), defScope (top 25), []⟩
def z_is_dealt : DefZ := ⟨fun K => He.ga K "is_dealt", "is_dealt", "is_dealt", defArgs (top 27), defBody (top 27), defScope (top 27), []⟩
def z_want_deal : DefZ := ⟨fun K => He.ga K "want_deal", "want_deal", "want_deal", defArgs (top 28), defBody (top 28), defScope (top 28), []⟩
def z_is_deal : DefZ := ⟨fun K => He.ga K "is_deal", "is_deal", "is_deal", defArgs (top 29), defBody (top 29), defScope (top 29), []⟩
def z_are_values : DefZ := ⟨fun K => He.ga K "are_values", "are_values", "are_values", defArgs (top 35), defBody (top 35), defScope (top 35), []⟩
def z_is_move : DefZ := ⟨fun K => He.ga K "is_move", "is_move", "is_move", defArgs (top 36), defBody (top 36), defScope (top 36), []⟩
def z_is_played : DefZ := ⟨fun K => He.ga K "is_played", "is_played", "is_played", defArgs (top 37), defBody (top 37), defScope (top 37), []⟩
def z_want_play : DefZ := ⟨fun K => He.ga K "want_play", "want_play", "want_play", defArgs (top 38), defBody (top 38), defScope (top 38), []⟩
def z_moved_place : DefZ := ⟨fun K => He.ga K "moved_place", "moved_place", "moved_place", defArgs (top 39), defBody (top 39), defScope (top 39), []⟩
def z_move_deal : DefZ := ⟨fun K => He.ga K "move_deal", "move_deal", "move_deal", defArgs (top 40), defBody (top 40), defScope (top 40), []⟩
def z_deal_by : DefZ := ⟨fun K => He.ga K "deal_by", "deal_by", "deal_by", defArgs (top 41), defBody (top 41), defScope (top 41), []⟩
def z_contrary_move : DefZ := ⟨fun K => He.ga K "contrary_move", "contrary_move", "contrary_move", defArgs (top 42), defBody (top 42), defScope (top 42), []⟩
def z_contrary_of : DefZ := ⟨fun K => He.ga K "contrary_of", "contrary_of", "contrary_of", defArgs (top 43), defBody (top 43), defScope (top 43), []⟩
def z_is_play : DefZ := ⟨fun K => He.ga K "is_play", "is_play", "is_play", defArgs (top 44), defBody (top 44), defScope (top 44), []⟩
def z_play_deal : DefZ := ⟨fun K => He.ga K "play_deal", "play_deal", "play_deal", defArgs (top 45), defBody (top 45), defScope (top 45), []⟩
def z_contrary_play : DefZ := ⟨fun K => He.ga K "contrary_play", "contrary_play", "contrary_play", defArgs (top 46), defBody (top 46), defScope (top 46), []⟩
def z_is_play_for : DefZ := ⟨fun K => He.ga K "is_play_for", "is_play_for", "is_play_for", defArgs (top 47), defBody (top 47), defScope (top 47), []⟩
def z__law_pot : DefZ := ⟨fun K => He.ga K "_law_pot", "_law_pot", "_law_pot", defArgs (top 49), defBody (top 49), defScope (top 49), []⟩
def z__law_draw : DefZ := ⟨fun K => He.ga K "_law_draw", "_law_draw", "_law_draw", defArgs (top 50), defBody (top 50), defScope (top 50), []⟩
def z__law_pick : DefZ := ⟨fun K => He.ga K "_law_pick", "_law_pick", "_law_pick", defArgs (top 51), defBody (top 51), defScope (top 51), []⟩
def z__law_mixed : DefZ := ⟨fun K => He.ga K "_law_mixed", "_law_mixed", "_law_mixed", defArgs (top 52), defBody (top 52), defScope (top 52), []⟩
def z__law_is_count : DefZ := ⟨fun K => He.ga K "_law_is_count", "_law_is_count", "_law_is_count", defArgs (top 53), defBody (top 53), defScope (top 53), []⟩
def z__law_is_deal : DefZ := ⟨fun K => He.ga K "_law_is_deal", "_law_is_deal", "_law_is_deal", defArgs (top 54), defBody (top 54), defScope (top 54), []⟩
def z__law_is_move : DefZ := ⟨fun K => He.ga K "_law_is_move", "_law_is_move", "_law_is_move", defArgs (top 55), defBody (top 55), defScope (top 55), []⟩
def z__law_is_play : DefZ := ⟨fun K => He.ga K "_law_is_play", "_law_is_play", "_law_is_play", defArgs (top 56), defBody (top 56), defScope (top 56), []⟩
def z__law_moved : DefZ := ⟨fun K => He.ga K "_law_moved", "_law_moved", "_law_moved", defArgs (top 57), defBody (top 57), defScope (top 57), []⟩
def z__law_played : DefZ := ⟨fun K => He.ga K "_law_played", "_law_played", "_law_played", defArgs (top 58), defBody (top 58), defScope (top 58), []⟩
def z__law_undone : DefZ := ⟨fun K => He.ga K "_law_undone", "_law_undone", "_law_undone", defArgs (top 59), defBody (top 59), defScope (top 59), []⟩
def z__law_move : DefZ := ⟨fun K => He.ga K "_law_move", "_law_move", "_law_move", defArgs (top 60), defBody (top 60), defScope (top 60), []⟩
def z__law_bent_move : DefZ := ⟨fun K => He.ga K "_law_bent_move", "_law_bent_move", "_law_bent_move", defArgs (top 61), defBody (top 61), defScope (top 61), []⟩
def z__law_bent_play : DefZ := ⟨fun K => He.ga K "_law_bent_play", "_law_bent_play", "_law_bent_play", defArgs (top 62), defBody (top 62), defScope (top 62), []⟩
def z__law_deals_right : DefZ := ⟨fun K => He.ga K "_law_deals_right", "_law_deals_right", "_law_deals_right", defArgs (top 63), defBody (top 63), defScope (top 63), []⟩
def z__law_plays_right : DefZ := ⟨fun K => He.ga K "_law_plays_right", "_law_plays_right", "_law_plays_right", defArgs (top 64), defBody (top 64), defScope (top 64), []⟩
def z__law_long_right : DefZ := ⟨fun K => He.ga K "_law_long_right", "_law_long_right", "_law_long_right", defArgs (top 65), defBody (top 65), defScope (top 65), []⟩
def z__law_right : DefZ := ⟨fun K => He.ga K "_law_right", "_law_right", "_law_right", defArgs (top 66), defBody (top 66), defScope (top 66), []⟩
def z_law : DefZ := ⟨fun K => He.ga K "law", "law", "law", defArgs (top 67), defBody (top 67), defScope (top 67), []⟩
def fn0 : List DefZ := [z_is_integer, z_is_count, z_is_list, z_digits_of, z_common_part, z_Ratio___init__, z_Ratio___add__, z_Ratio___sub__, z_Ratio___mul__, z_Ratio___eq__, z_Ratio___repr__, z_told_pair, z_want_prime, z_undone_rest, z_places, z_spot_of, z_is_deal_of, z_behind_table, z_is_dealt, z_want_deal, z_is_deal, z_are_values, z_is_move, z_is_played, z_want_play, z_moved_place, z_move_deal, z_deal_by, z_contrary_move, z_contrary_of]
def fn1 : List DefZ := [z_is_play, z_play_deal, z_contrary_play, z_is_play_for, z__law_pot, z__law_draw, z__law_pick, z__law_mixed, z__law_is_count, z__law_is_deal, z__law_is_move, z__law_is_play, z__law_moved, z__law_played, z__law_undone, z__law_move, z__law_bent_move, z__law_bent_play, z__law_deals_right, z__law_plays_right, z__law_long_right, z__law_right, z_law]
def fn : List DefZ := fn0 ++ (fn1)
/-- what the module is -/
structure Zx (P : Program) (w : World) (K : Fr') (mg : Str → Option Value) (base : Heap) : Prop where
  says : SaysZ ex fn K
  ns : ∃ h : Heap, K.In h ∧ h.Ns mainGlobals mg
section
variable {P : Program} {w : World} {K : Fr'} {mg : Str → Option Value} {base : Heap}
theorem Zx.glo (Z : Zx P w K mg base) (i : Nat) {x : Str} (h : ex[i]? = some (tGlo x) := by rfl) : mg x = some (.ref (He.ga K x)) := by
  obtain ⟨hp, X, G⟩ := Z.ns
  exact He.glo_ok X G (Z.says.fact i h)
theorem Zx.free (Z : Zx P w K mg base) (i : Nat) {x : Str} (h : ex[i]? = some (tFree x) := by rfl) : mg x = none := by
  obtain ⟨hp, X, G⟩ := Z.ns
  exact He.free_ok X G (Z.says.fact i h)
theorem Zx.bi (Z : Zx P w K mg base) (i : Nat) {x : Str} {id : String} (h : ex[i]? = some (tBi x id) := by rfl) : mg x = some (.builtin id) := by
  obtain ⟨hp, X, G⟩ := Z.ns
  exact tBi_ok X G (Z.says.fact i h)
theorem Zx.int (Z : Zx P w K mg base) (i : Nat) {x : Str} {n : Int} (h : ex[i]? = some (tInt x n) := by rfl) : ∃ t, mg x = some (.int n t) := by
  obtain ⟨hp, X, G⟩ := Z.ns
  exact He.int_ok X G (Z.says.fact i h)
theorem Zx.str (Z : Zx P w K mg base) (i : Nat) {x z : Str} (h : ex[i]? = some (tStr x z) := by rfl) : ∃ t, mg x = some (.str z t) := by
  obtain ⟨hp, X, G⟩ := Z.ns
  exact He.str_ok X G (Z.says.fact i h)
theorem Zx.tupI (Z : Zx P w K mg base) (i : Nat) {x : Str} {ns : List Int} (h : ex[i]? = some (tTupI x ns) := by rfl) : ∃ t, mg x = some (.ref t) ∧ ∀ H, SqT K H t (ns.map V.int) := by
  obtain ⟨hp, X, G⟩ := Z.ns
  exact tTupI_ok X G (Z.says.fact i h)
theorem Zx.fr_len (Z : Zx P w K mg base) : mg "len" = none := Z.free 0
theorem Zx.fr_range (Z : Zx P w K mg base) : mg "range" = none := Z.free 1
theorem Zx.fr_abs (Z : Zx P w K mg base) : mg "abs" = none := Z.free 2
theorem Zx.fr_max (Z : Zx P w K mg base) : mg "max" = none := Z.free 3
theorem Zx.fr_min (Z : Zx P w K mg base) : mg "min" = none := Z.free 4
theorem Zx.fr_int (Z : Zx P w K mg base) : mg "int" = none := Z.free 5
theorem Zx.fr_repr (Z : Zx P w K mg base) : mg "repr" = none := Z.free 6
theorem Zx.fr_all (Z : Zx P w K mg base) : mg "all" = none := Z.free 7
theorem Zx.fr_any (Z : Zx P w K mg base) : mg "any" = none := Z.free 8
theorem Zx.fr_list (Z : Zx P w K mg base) : mg "list" = none := Z.free 9
theorem Zx.fr_tuple (Z : Zx P w K mg base) : mg "tuple" = none := Z.free 10
theorem Zx.fr_str (Z : Zx P w K mg base) : mg "str" = none := Z.free 11
theorem Zx.fr_isinstance (Z : Zx P w K mg base) : mg "isinstance" = none := Z.free 12
theorem Zx.fr_enumerate (Z : Zx P w K mg base) : mg "enumerate" = none := Z.free 13
theorem Zx.fr_zip (Z : Zx P w K mg base) : mg "zip" = none := Z.free 14
theorem Zx.fr_divmod (Z : Zx P w K mg base) : mg "divmod" = none := Z.free 15
theorem Zx.fr_bool (Z : Zx P w K mg base) : mg "bool" = none := Z.free 16
theorem Zx.fr_sorted (Z : Zx P w K mg base) : mg "sorted" = none := Z.free 17
theorem Zx.fr_sum (Z : Zx P w K mg base) : mg "sum" = none := Z.free 18
theorem Zx.fr_dict (Z : Zx P w K mg base) : mg "dict" = none := Z.free 19
theorem Zx.fr_set (Z : Zx P w K mg base) : mg "set" = none := Z.free 20
theorem Zx.fr_type (Z : Zx P w K mg base) : mg "type" = none := Z.free 21
theorem Zx.glo__wall (Z : Zx P w K mg base) : mg "_wall" = some (.ref (He.ga K "_wall")) := Z.glo 22
theorem Zx.glo_BendError (Z : Zx P w K mg base) : mg "BendError" = some (.ref (He.ga K "BendError")) := Z.glo 23
theorem Zx.glo_InvalidNumber (Z : Zx P w K mg base) : mg "InvalidNumber" = some (.ref (He.ga K "InvalidNumber")) := Z.glo 24
theorem Zx.glo_InvalidPrime (Z : Zx P w K mg base) : mg "InvalidPrime" = some (.ref (He.ga K "InvalidPrime")) := Z.glo 25
theorem Zx.glo_InvalidDeal (Z : Zx P w K mg base) : mg "InvalidDeal" = some (.ref (He.ga K "InvalidDeal")) := Z.glo 26
theorem Zx.glo_InvalidPlay (Z : Zx P w K mg base) : mg "InvalidPlay" = some (.ref (He.ga K "InvalidPlay")) := Z.glo 27
theorem Zx.glo_is_integer (Z : Zx P w K mg base) : mg "is_integer" = some (.ref (He.ga K "is_integer")) := Z.glo 28
theorem Zx.glo_is_count (Z : Zx P w K mg base) : mg "is_count" = some (.ref (He.ga K "is_count")) := Z.glo 29
theorem Zx.glo_is_list (Z : Zx P w K mg base) : mg "is_list" = some (.ref (He.ga K "is_list")) := Z.glo 30
theorem Zx.glo_digits_of (Z : Zx P w K mg base) : mg "digits_of" = some (.ref (He.ga K "digits_of")) := Z.glo 31
theorem Zx.glo_common_part (Z : Zx P w K mg base) : mg "common_part" = some (.ref (He.ga K "common_part")) := Z.glo 32
theorem Zx.glo_Ratio (Z : Zx P w K mg base) : mg "Ratio" = some (.ref (He.ga K "Ratio")) := Z.glo 33
theorem Zx.glo_told_pair (Z : Zx P w K mg base) : mg "told_pair" = some (.ref (He.ga K "told_pair")) := Z.glo 34
theorem Zx.glo_want_prime (Z : Zx P w K mg base) : mg "want_prime" = some (.ref (He.ga K "want_prime")) := Z.glo 35
theorem Zx.glo_undone_rest (Z : Zx P w K mg base) : mg "undone_rest" = some (.ref (He.ga K "undone_rest")) := Z.glo 36
theorem Zx.glo_places (Z : Zx P w K mg base) : mg "places" = some (.ref (He.ga K "places")) := Z.glo 37
theorem Zx.glo_spot_of (Z : Zx P w K mg base) : mg "spot_of" = some (.ref (He.ga K "spot_of")) := Z.glo 38
theorem Zx.glo_is_deal_of (Z : Zx P w K mg base) : mg "is_deal_of" = some (.ref (He.ga K "is_deal_of")) := Z.glo 39
theorem Zx.glo_behind_table (Z : Zx P w K mg base) : mg "behind_table" = some (.ref (He.ga K "behind_table")) := Z.glo 40
theorem Zx.glo_is_dealt (Z : Zx P w K mg base) : mg "is_dealt" = some (.ref (He.ga K "is_dealt")) := Z.glo 41
theorem Zx.glo_want_deal (Z : Zx P w K mg base) : mg "want_deal" = some (.ref (He.ga K "want_deal")) := Z.glo 42
theorem Zx.glo_is_deal (Z : Zx P w K mg base) : mg "is_deal" = some (.ref (He.ga K "is_deal")) := Z.glo 43
theorem Zx.glo_are_values (Z : Zx P w K mg base) : mg "are_values" = some (.ref (He.ga K "are_values")) := Z.glo 44
theorem Zx.glo_is_move (Z : Zx P w K mg base) : mg "is_move" = some (.ref (He.ga K "is_move")) := Z.glo 45
theorem Zx.glo_is_played (Z : Zx P w K mg base) : mg "is_played" = some (.ref (He.ga K "is_played")) := Z.glo 46
theorem Zx.glo_want_play (Z : Zx P w K mg base) : mg "want_play" = some (.ref (He.ga K "want_play")) := Z.glo 47
theorem Zx.glo_moved_place (Z : Zx P w K mg base) : mg "moved_place" = some (.ref (He.ga K "moved_place")) := Z.glo 48
theorem Zx.glo_move_deal (Z : Zx P w K mg base) : mg "move_deal" = some (.ref (He.ga K "move_deal")) := Z.glo 49
theorem Zx.glo_deal_by (Z : Zx P w K mg base) : mg "deal_by" = some (.ref (He.ga K "deal_by")) := Z.glo 50
theorem Zx.glo_contrary_move (Z : Zx P w K mg base) : mg "contrary_move" = some (.ref (He.ga K "contrary_move")) := Z.glo 51
theorem Zx.glo_contrary_of (Z : Zx P w K mg base) : mg "contrary_of" = some (.ref (He.ga K "contrary_of")) := Z.glo 52
theorem Zx.glo_is_play (Z : Zx P w K mg base) : mg "is_play" = some (.ref (He.ga K "is_play")) := Z.glo 53
theorem Zx.glo_play_deal (Z : Zx P w K mg base) : mg "play_deal" = some (.ref (He.ga K "play_deal")) := Z.glo 54
theorem Zx.glo_contrary_play (Z : Zx P w K mg base) : mg "contrary_play" = some (.ref (He.ga K "contrary_play")) := Z.glo 55
theorem Zx.glo_is_play_for (Z : Zx P w K mg base) : mg "is_play_for" = some (.ref (He.ga K "is_play_for")) := Z.glo 56
theorem Zx.glo__law_pot (Z : Zx P w K mg base) : mg "_law_pot" = some (.ref (He.ga K "_law_pot")) := Z.glo 57
theorem Zx.glo__law_draw (Z : Zx P w K mg base) : mg "_law_draw" = some (.ref (He.ga K "_law_draw")) := Z.glo 58
theorem Zx.glo__law_pick (Z : Zx P w K mg base) : mg "_law_pick" = some (.ref (He.ga K "_law_pick")) := Z.glo 59
theorem Zx.glo__law_mixed (Z : Zx P w K mg base) : mg "_law_mixed" = some (.ref (He.ga K "_law_mixed")) := Z.glo 60
theorem Zx.glo__law_is_count (Z : Zx P w K mg base) : mg "_law_is_count" = some (.ref (He.ga K "_law_is_count")) := Z.glo 61
theorem Zx.glo__law_is_deal (Z : Zx P w K mg base) : mg "_law_is_deal" = some (.ref (He.ga K "_law_is_deal")) := Z.glo 62
theorem Zx.glo__law_is_move (Z : Zx P w K mg base) : mg "_law_is_move" = some (.ref (He.ga K "_law_is_move")) := Z.glo 63
theorem Zx.glo__law_is_play (Z : Zx P w K mg base) : mg "_law_is_play" = some (.ref (He.ga K "_law_is_play")) := Z.glo 64
theorem Zx.glo__law_moved (Z : Zx P w K mg base) : mg "_law_moved" = some (.ref (He.ga K "_law_moved")) := Z.glo 65
theorem Zx.glo__law_played (Z : Zx P w K mg base) : mg "_law_played" = some (.ref (He.ga K "_law_played")) := Z.glo 66
theorem Zx.glo__law_undone (Z : Zx P w K mg base) : mg "_law_undone" = some (.ref (He.ga K "_law_undone")) := Z.glo 67
theorem Zx.glo__law_move (Z : Zx P w K mg base) : mg "_law_move" = some (.ref (He.ga K "_law_move")) := Z.glo 68
theorem Zx.glo__law_bent_move (Z : Zx P w K mg base) : mg "_law_bent_move" = some (.ref (He.ga K "_law_bent_move")) := Z.glo 69
theorem Zx.glo__law_bent_play (Z : Zx P w K mg base) : mg "_law_bent_play" = some (.ref (He.ga K "_law_bent_play")) := Z.glo 70
theorem Zx.glo__law_deals_right (Z : Zx P w K mg base) : mg "_law_deals_right" = some (.ref (He.ga K "_law_deals_right")) := Z.glo 71
theorem Zx.glo__law_plays_right (Z : Zx P w K mg base) : mg "_law_plays_right" = some (.ref (He.ga K "_law_plays_right")) := Z.glo 72
theorem Zx.glo__law_long_right (Z : Zx P w K mg base) : mg "_law_long_right" = some (.ref (He.ga K "_law_long_right")) := Z.glo 73
theorem Zx.glo__law_right (Z : Zx P w K mg base) : mg "_law_right" = some (.ref (He.ga K "_law_right")) := Z.glo 74
theorem Zx.glo_law (Z : Zx P w K mg base) : mg "law" = some (.ref (He.ga K "law")) := Z.glo 75
theorem Zx.bi_gcd (Z : Zx P w K mg base) : mg "gcd" = some (.builtin "math.gcd") := Z.bi 76
theorem Zx.c_PART (Z : Zx P w K mg base) : ∃ t, mg "PART" = some (.int 1000000000000000000000000000000000000000000000000000000000000 t) := Z.int 77
theorem Zx.c_PRIMES (Z : Zx P w K mg base) : ∃ t, mg "PRIMES" = some (.ref t) ∧ ∀ H, SqT K H t (([3, 5, 7, 11] : List Int).map V.int) := Z.tupI 78
theorem Zx.c_MOST_MOVES (Z : Zx P w K mg base) : ∃ t, mg "MOST_MOVES" = some (.int 1500 t) := Z.int 79
theorem Zx.c_COLUMNS (Z : Zx P w K mg base) : ∃ t, mg "COLUMNS" = some (.str "y" t) := Z.str 80
theorem Zx.c_ROWS (Z : Zx P w K mg base) : ∃ t, mg "ROWS" = some (.str "x" t) := Z.str 81
theorem Zx.c_TURN (Z : Zx P w K mg base) : ∃ t, mg "TURN" = some (.str "turn" t) := Z.str 82
theorem Zx.cl0 (Z : Zx P w K mg base) : ClsAt K (csK K) 0 (He.ga K "Ratio") ["own_top", "own_bottom"] := ⟨rfl, by decide, He.cls_ok (Z.says.fact 83)⟩
theorem Zx.no_Ratio_own_top (Z : Zx P w K mg base) : NoAttr K (He.ga K "Ratio") "own_top" := He.noat_ok (Z.says.fact 84)
theorem Zx.no_Ratio_own_bottom (Z : Zx P w K mg base) : NoAttr K (He.ga K "Ratio") "own_bottom" := He.noat_ok (Z.says.fact 85)
theorem Zx.mkr_Ratio (Z : Zx P w K mg base) : Mk K (He.ga K "Ratio") (He.ma K (He.ga K "Ratio") "__init__") := He.mkr_ok (Z.says.fact 86)
theorem Zx.me_Ratio___add__ (Z : Zx P w K mg base) : Meth K (He.ga K "Ratio") "__add__" (He.ma K (He.ga K "Ratio") "__add__") := He.meth_ok (Z.says.fact 87)
theorem Zx.me_Ratio___sub__ (Z : Zx P w K mg base) : Meth K (He.ga K "Ratio") "__sub__" (He.ma K (He.ga K "Ratio") "__sub__") := He.meth_ok (Z.says.fact 88)
theorem Zx.me_Ratio___mul__ (Z : Zx P w K mg base) : Meth K (He.ga K "Ratio") "__mul__" (He.ma K (He.ga K "Ratio") "__mul__") := He.meth_ok (Z.says.fact 89)
theorem Zx.me_Ratio___eq__ (Z : Zx P w K mg base) : Meth K (He.ga K "Ratio") "__eq__" (He.ma K (He.ga K "Ratio") "__eq__") := He.meth_ok (Z.says.fact 90)
theorem Zx.me_Ratio___repr__ (Z : Zx P w K mg base) : Meth K (He.ga K "Ratio") "__repr__" (He.ma K (He.ga K "Ratio") "__repr__") := He.meth_ok (Z.says.fact 91)
theorem Zx.op_Ratio_Add (Z : Zx P w K mg base) : OpF K (He.ga K "Ratio") (He.ma K (He.ga K "Ratio") "__add__") .Add := opfB_ok (Z.says.fact 92)
theorem Zx.op_Ratio_Sub (Z : Zx P w K mg base) : OpF K (He.ga K "Ratio") (He.ma K (He.ga K "Ratio") "__sub__") .Sub := opfB_ok (Z.says.fact 93)
theorem Zx.op_Ratio_Mult (Z : Zx P w K mg base) : OpF K (He.ga K "Ratio") (He.ma K (He.ga K "Ratio") "__mul__") .Mult := opfB_ok (Z.says.fact 94)
theorem Zx.ne (Z : Zx P w K mg base) : ∀ c C fn, csK K c = some (C, fn) → neB K C = true := neAll_ok (Z.says.fact 95)
theorem Zx.isi (Z : Zx P w K mg base) : IsiF K (csK K) := by
  refine isiB_ok (fun p hp => ?_) (Z.says.fact 96)
  simp only [clL, List.mem_cons, List.mem_nil_iff, or_false] at hp
  rcases hp with rfl
  · exact (Z.cl0).cl
theorem Zx.inj (Z : Zx P w K mg base) : ∀ c c' C fn fn', csK K c = some (C, fn) → csK K c' = some (C, fn') → c = c' := injB_ok (Z.says.fact 97)
end
end Q
end

section
set_option Elab.async false
set_option linter.all false
set_option maxRecDepth 100000
set_option maxHeartbeats 0
namespace Q
open PySem PySem.Spec PyProof.Rows L2 DL
def loose0 : List PySem.Str := [PySem.Str.ofString "__name__", PySem.Str.ofString "_wall", PySem.Str.ofString "BendError", PySem.Str.ofString "InvalidNumber", PySem.Str.ofString "InvalidPrime", PySem.Str.ofString "InvalidDeal", PySem.Str.ofString "InvalidPlay", PySem.Str.ofString "is_integer", PySem.Str.ofString "is_count", PySem.Str.ofString "is_list", PySem.Str.ofString "PART", PySem.Str.ofString "digits_of", PySem.Str.ofString "common_part", PySem.Str.ofString "Ratio", PySem.Str.ofString "told_pair", PySem.Str.ofString "PRIMES", PySem.Str.ofString "want_prime", PySem.Str.ofString "undone_rest", PySem.Str.ofString "places", PySem.Str.ofString "spot_of", PySem.Str.ofString "is_deal_of", PySem.Str.ofString "behind_table", PySem.Str.ofString "is_dealt", PySem.Str.ofString "want_deal", PySem.Str.ofString "is_deal", PySem.Str.ofString "MOST_MOVES", PySem.Str.ofString "COLUMNS", PySem.Str.ofString "ROWS", PySem.Str.ofString "TURN", PySem.Str.ofString "are_values", PySem.Str.ofString "is_move", PySem.Str.ofString "is_played", PySem.Str.ofString "want_play", PySem.Str.ofString "moved_place", PySem.Str.ofString "move_deal"]
def loose1 : List PySem.Str := [PySem.Str.ofString "deal_by", PySem.Str.ofString "contrary_move", PySem.Str.ofString "contrary_of", PySem.Str.ofString "is_play", PySem.Str.ofString "play_deal", PySem.Str.ofString "contrary_play", PySem.Str.ofString "is_play_for", PySem.Str.ofString "_law_pot", PySem.Str.ofString "_law_draw", PySem.Str.ofString "_law_pick", PySem.Str.ofString "_law_mixed", PySem.Str.ofString "_law_is_count", PySem.Str.ofString "_law_is_deal", PySem.Str.ofString "_law_is_move", PySem.Str.ofString "_law_is_play", PySem.Str.ofString "_law_moved", PySem.Str.ofString "_law_played", PySem.Str.ofString "_law_undone", PySem.Str.ofString "_law_move", PySem.Str.ofString "_law_bent_move", PySem.Str.ofString "_law_bent_play", PySem.Str.ofString "_law_deals_right", PySem.Str.ofString "_law_plays_right", PySem.Str.ofString "_law_long_right", PySem.Str.ofString "_law_right"]
def looseAll : List PySem.Str := loose0 ++ (loose1)
abbrev R : PySem.W.OpenRow := PySem.W.OpenLaw.row PySem.Challenge.rw_sheetdeals_k42_any_value_as_deal_and_pla
abbrev hk : PySem.W.Hook := hookZ 5 ex fn
def ob (s : PySem.W.SharedT) : He.AlD := obsZG 5 ex fn (HandSHeadRun.getT s)
theorem ob_eq (s : PySem.W.SharedT) : ob s = hk.obs s.abs := obsZG_eq (HandSHeadRun.getT_eq s)
/-- the run -/
noncomputable abbrev RX (w : World) := HandSHeadRun.wholeF (fun p => HandSHeadRun.stepQ (HandSHeadRun.denQ HandSHeadRun.tabQ) p w) HandSHeadRun.fenceQ 9000 R.prog
def kOf (s : PySem.W.SharedT) : Fr' := He.frG (HandSHeadRun.getT s) (He.asD (HandSHeadRun.getT s) 5)
open PySem.W HandSHeadRun in
theorem run1 (w : World) : (RX w).map (fun x => (looksF R.prog x.1.heap x.2.abs, seenQ (view R.prog [0, 67]) looseAll (importedModules R.prog.main.body) (fun s => xlAt (view R.prog [0, 67]) [] s && recOk R.toRowW.records s) x.2.abs)) = some (true, openGood (view R.prog [0, 67]) looseAll) := by
  kernel_rfl
theorem run2 (w : World) : (RX w).map (fun x => ex.all fun f => f (kOf x.2)) = some true := by
  kernel_rfl
theorem run3 (w : World) : (RX w).map (fun x => fn.all fun d => d.ok (kOf x.2)) = some true := by
  kernel_rfl
theorem run4 (w : World) : (RX w).map (fun x => fn.map fun d => fnZ (kOf x.2) (d.adr (kOf x.2))) = some (fn.map DefZ.val) := by
  kernel_rfl
theorem joined {α β γ : Type} {X : Option α} {f1 : α → Bool × β} {f2 f3 : α → Bool} {f4 : α → γ} {G : α → Bool × β × (Bool × γ)} {b : β} {c : γ} (h1 : X.map f1 = some (true, b)) (h2 : X.map f2 = some true) (h3 : X.map f3 = some true) (h4 : X.map f4 = some c) (hG : ∀ x, G x = ((f1 x).1, (f1 x).2, (f2 x && f3 x, f4 x))) : X.map G = some (true, b, (true, c)) := by
  cases X with
  | none => cases h1
  | some x =>
    have e1 := Option.some.inj h1
    have e2 := Option.some.inj h2
    have e3 := Option.some.inj h3
    have e4 := Option.some.inj h4
    show some (G x) = _
    rw [hG x]
    simp only [e1, e2, e3, e4, Bool.and_self]
theorem run (w : World) : HandSHeadRun.RunEqI R (PySem.W.view R.prog [0, 67]) hk ob 9000 looseAll w := joined (run1 w) (run2 w) (run3 w) (run4 w) fun _ => rfl
end Q
end

section
set_option Elab.async false
set_option linter.all false
set_option maxRecDepth 100000
set_option maxHeartbeats 4000000
namespace Q
open PySem PySem.Spec PyProof.Rows L2 DL
noncomputable section
/-! is_integer -/
def N_is_integer : List Str := ["value"]
theorem S_is_integer : FnScope N_is_integer ["value"] (defScope (top 9)) := ⟨rfl, rfl, rfl, by decide +kernel, rfl, by decide +kernel, by decide +kernel⟩
def m_is_integer : MS := (mRet (mTV (mAnd (mB (mIsT "int" (mVar 0))) (mB (mTV (mNot (mB (mIsT "bool" (mVar 0)))))))))
def d_is_integer : List D → Mo D := runD 1 m_is_integer
theorem b_is_integer {P : Program} {w : World} {K : Fr'} {mg : Str → Option Value} {base : Heap} (Z : Zx P w K mg base) (cdv : Value) (A : Around) (outer : List Env) (s : Shared) (H : Hp) (E : XK) (hr : Room 0 (A.deeper (envOfC "is_integer" (defScope (top 9)) s.heap.objs.size (He.ga K "is_integer") cdv))) (hg : false = true → A.guards = some []) :
    PSsD (csK K) (cx0 P w K mg base N_is_integer "is_integer" (defScope (top 9)) (He.ga K "is_integer") cdv A outer s H E) (defBody (top 9)) m_is_integer := by
  exact (ss_one (s_ret (p_and (p_isT "int" Z.isi Z.fr_isinstance Z.fr_int (p_var 0)) (p_one (p_not (p_isT "bool" Z.isi Z.fr_isinstance Z.fr_bool (p_var 0)))))))
theorem w_is_integer {P : Program} {w : World} {K : Fr'} {mg : Str → Option Value} {base : Heap} (Z : Zx P w K mg base) : ∃ fd, FnD false P w K mg base 1 (He.ga K "is_integer") fd ["value"] (spD K (csK K) 1 d_is_integer) ∧ True ∧ PySem.W.keepIn K (.ref (He.ga K "is_integer")) = true ∧ Binds K fd ["value"] [] ∧ True := by
  obtain ⟨fd, D⟩ := Z.says.def_ 0 (d := z_is_integer)
  refine ⟨fd, fn_d (N := N_is_integer) D S_is_integer fun cdv A outer s H E hr hg => b_is_integer Z cdv A outer s H E hr hg, trivial, D.kp, D.bindsN (fun _ _ _ _ _ _ us hl => match us, hl with
    | [a0], _ => rfl), trivial⟩
/-! is_list -/
def N_is_list : List Str := ["value"]
theorem S_is_list : FnScope N_is_list ["value"] (defScope (top 11)) := ⟨rfl, rfl, rfl, by decide +kernel, rfl, by decide +kernel, by decide +kernel⟩
def m_is_list : MS := (mRet (mIsT2 "list" "tuple" (mVar 0)))
def d_is_list : List D → Mo D := runD 1 m_is_list
theorem b_is_list {P : Program} {w : World} {K : Fr'} {mg : Str → Option Value} {base : Heap} (Z : Zx P w K mg base) (cdv : Value) (A : Around) (outer : List Env) (s : Shared) (H : Hp) (E : XK) (hr : Room 0 (A.deeper (envOfC "is_list" (defScope (top 11)) s.heap.objs.size (He.ga K "is_list") cdv))) (hg : false = true → A.guards = some []) :
    PSsD (csK K) (cx0 P w K mg base N_is_list "is_list" (defScope (top 11)) (He.ga K "is_list") cdv A outer s H E) (defBody (top 11)) m_is_list := by
  exact (ss_one (s_ret (p_isT2 "list" "tuple" Z.isi Z.fr_isinstance Z.fr_list Z.fr_tuple (p_var 0))))
theorem w_is_list {P : Program} {w : World} {K : Fr'} {mg : Str → Option Value} {base : Heap} (Z : Zx P w K mg base) : ∃ fd, FnD false P w K mg base 1 (He.ga K "is_list") fd ["value"] (spD K (csK K) 1 d_is_list) ∧ True ∧ PySem.W.keepIn K (.ref (He.ga K "is_list")) = true ∧ Binds K fd ["value"] [] ∧ True := by
  obtain ⟨fd, D⟩ := Z.says.def_ 2 (d := z_is_list)
  refine ⟨fd, fn_d (N := N_is_list) D S_is_list fun cdv A outer s H E hr hg => b_is_list Z cdv A outer s H E hr hg, trivial, D.kp, D.bindsN (fun _ _ _ _ _ _ us hl => match us, hl with
    | [a0], _ => rfl), trivial⟩
/-! digits_of -/
def N_digits_of : List Str := ["number", "left", "told", "part", "sign"]
theorem S_digits_of : FnScope N_digits_of ["number"] (defScope (top 14)) := ⟨rfl, rfl, rfl, by decide +kernel, rfl, by decide +kernel, by decide +kernel⟩
def m_digits_of : MS := (mSeq (mPar 1 2 (mCons (mIf (mB (mBin dGe (mVar 0) (mC (.int 0)))) (mVar 0) (mBin dSubI (mC (.int 0)) (mVar 0))) (mCons (mC (.str "")) mNil))) (mSeq (mWhile (mB (mBin dGe (mVar 1) (mC (.int 1000000000000000000000000000000000000000000000000000000000000)))) (mSeq (mSet 3 (mBin dAddI (mBin dModI (mCall cInt (mCons (mVar 1) mNil)) (mC (.int 1000000000000000000000000000000000000000000000000000000000000))) (mC (.int 1000000000000000000000000000000000000000000000000000000000000)))) (mSeq (mSet 2 (mJs [(mFmt (mSlS (mCall cStr (mCons (mVar 3) mNil)) (mPart (mC (.int 1))) mNoP)), (mFmt (mVar 2))])) (mSet 1 (mBin dDivI (mVar 1) (mC (.int 1000000000000000000000000000000000000000000000000000000000000))))))) (mSeq (mSet 4 (mIf (mB (mBin dLt (mVar 0) (mC (.int 0)))) (mC (.str "-")) (mC (.str "")))) (mRet (mJs [(mFmt (mVar 4)), (mFmt (mVar 1)), (mFmt (mVar 2))])))))
def d_digits_of : List D → Mo D := runD 5 m_digits_of
theorem b_digits_of {P : Program} {w : World} {K : Fr'} {mg : Str → Option Value} {base : Heap} (Z : Zx P w K mg base) (cdv : Value) (A : Around) (outer : List Env) (s : Shared) (H : Hp) (E : XK) (hr : Room 0 (A.deeper (envOfC "digits_of" (defScope (top 14)) s.heap.objs.size (He.ga K "digits_of") cdv))) (hg : false = true → A.guards = some []) :
    PSsD (csK K) (cx0 P w K mg base N_digits_of "digits_of" (defScope (top 14)) (He.ga K "digits_of") cdv A outer s H E) (defBody (top 14)) m_digits_of := by
  obtain ⟨t_PART, h_PART⟩ := Z.c_PART
  exact (ss_cons (s_par 1 2 rfl S_digits_of.nd (DL.pa_cons (p_if (pt_cmp op_geI (p_var 0) p_int rfl) (p_var 0) (p_bin op_subI p_int (p_var 0))) (DL.pa_cons p_str DL.pa_nil)) rfl) (ss_cons (s_while PassesOwn.never (pt_cmp op_geI (p_var 1) (p_gint rfl h_PART) rfl) (ss_cons (s_set 3 S_digits_of.nd (p_bin op_addI (p_bin op_modI (p_type ca_int Z.fr_int (DL.pa_cons (p_var 1) DL.pa_nil)) (p_gint rfl h_PART)) (p_gint rfl h_PART))) (ss_cons (s_set 2 S_digits_of.nd (p_js (js_cons (p_fmt (p_slS (p_type ca_str Z.fr_str (DL.pa_cons (p_var 3) DL.pa_nil)) (x_some p_int) x_none)) (js_cons (p_fmt (p_var 2)) js_nil)))) (ss_one (s_set 1 S_digits_of.nd (p_bin op_divI (p_var 1) (p_gint rfl h_PART))))))) (ss_cons (s_set 4 S_digits_of.nd (p_if (pt_cmp op_ltI (p_var 0) p_int rfl) p_str p_str)) (ss_one (s_ret (p_js (js_cons (p_fmt (p_var 4)) (js_cons (p_fmt (p_var 1)) (js_cons (p_fmt (p_var 2)) js_nil)))))))))
theorem w_digits_of {P : Program} {w : World} {K : Fr'} {mg : Str → Option Value} {base : Heap} (Z : Zx P w K mg base) : ∃ fd, FnD false P w K mg base 1 (He.ga K "digits_of") fd ["number"] (spD K (csK K) 1 d_digits_of) ∧ True ∧ PySem.W.keepIn K (.ref (He.ga K "digits_of")) = true ∧ Binds K fd ["number"] [] ∧ True := by
  obtain ⟨fd, D⟩ := Z.says.def_ 3 (d := z_digits_of)
  refine ⟨fd, fn_d (N := N_digits_of) D S_digits_of fun cdv A outer s H E hr hg => b_digits_of Z cdv A outer s H E hr hg, trivial, D.kp, D.bindsN (fun _ _ _ _ _ _ us hl => match us, hl with
    | [a0], _ => rfl), trivial⟩
/-! common_part -/
def N_common_part : List Str := ["one", "other"]
theorem S_common_part : FnScope N_common_part ["one", "other"] (defScope (top 15)) := ⟨rfl, rfl, rfl, by decide +kernel, rfl, by decide +kernel, by decide +kernel⟩
def m_common_part : MS := (mRet (mCall cGcd (mCons (mVar 0) (mCons (mVar 1) mNil))))
def d_common_part : List D → Mo D := runD 2 m_common_part
theorem b_common_part {P : Program} {w : World} {K : Fr'} {mg : Str → Option Value} {base : Heap} (Z : Zx P w K mg base) (cdv : Value) (A : Around) (outer : List Env) (s : Shared) (H : Hp) (E : XK) (hr : Room 0 (A.deeper (envOfC "common_part" (defScope (top 15)) s.heap.objs.size (He.ga K "common_part") cdv))) (hg : false = true → A.guards = some []) :
    PSsD (csK K) (cx0 P w K mg base N_common_part "common_part" (defScope (top 15)) (He.ga K "common_part") cdv A outer s H E) (defBody (top 15)) m_common_part := by
  exact (ss_one (s_ret (p_bfun ca_gcd Z.bi_gcd (DL.pa_cons (p_var 0) (DL.pa_cons (p_var 1) DL.pa_nil)))))
theorem w_common_part {P : Program} {w : World} {K : Fr'} {mg : Str → Option Value} {base : Heap} (Z : Zx P w K mg base) : ∃ fd, FnD false P w K mg base 1 (He.ga K "common_part") fd ["one", "other"] (spD K (csK K) 2 d_common_part) ∧ True ∧ PySem.W.keepIn K (.ref (He.ga K "common_part")) = true ∧ Binds K fd ["one", "other"] [] ∧ True := by
  obtain ⟨fd, D⟩ := Z.says.def_ 4 (d := z_common_part)
  refine ⟨fd, fn_d (N := N_common_part) D S_common_part fun cdv A outer s H E hr hg => b_common_part Z cdv A outer s H E hr hg, trivial, D.kp, D.bindsN (fun _ _ _ _ _ _ us hl => match us, hl with
    | [a0, a1], _ => rfl), trivial⟩
/-! Ratio.__init__ -/
def N_Ratio___init__ : List Str := ["self", "top", "bottom", "common"]
theorem S_Ratio___init__ : FnScope N_Ratio___init__ ["self", "top", "bottom"] (defScope (inClass (top 16) 0)) := ⟨rfl, rfl, rfl, by decide +kernel, rfl, by decide +kernel, by decide +kernel⟩
def m_Ratio___init__ : MS := (mSeq (mIfS (mNot (mB (mCall (lenM 1 d_is_integer) (mCons (mVar 1) mNil)))) mNever mNx) (mSeq (mIfS (mOr (mNot (mB (mCall (lenM 1 d_is_integer) (mCons (mVar 2) mNil)))) (mB (mBin (dEqF false) (mVar 2) (mC (.int 0))))) mNever mNx) (mSeq (mSet 3 (mCall (lenM 2 d_common_part) (mCons (mVar 1) (mCons (mVar 2) mNil)))) (mSeq (mIfS (mB (mBin dLt (mVar 2) (mC (.int 0)))) (mSet 3 (mBin dSubI (mC (.int 0)) (mVar 3))) mNx) (mSeq (mFldAt 0 0 0 (mBin dDivI (mVar 1) (mVar 3))) (mFldAt 0 0 1 (mBin dDivI (mVar 2) (mVar 3))))))))
def d_Ratio___init__ : List D → Mo D := runI 4 0 2 m_Ratio___init__
theorem b_Ratio___init__ {P : Program} {w : World} {K : Fr'} {mg : Str → Option Value} {base : Heap} (Z : Zx P w K mg base) (cdv : Value) (A : Around) (outer : List Env) (s : Shared) (H : Hp) (E : XK) (hr : Room 1 (A.deeper (envOfC "Ratio.__init__" (defScope (inClass (top 16) 0)) s.heap.objs.size (He.ma K (He.ga K "Ratio") "__init__") cdv))) (hg : false = true → A.guards = some []) :
    PSsD (csK K) (cx0 P w K mg base N_Ratio___init__ "Ratio.__init__" (defScope (inClass (top 16) 0)) (He.ma K (He.ga K "Ratio") "__init__") cdv A outer s H E) (defBody (inClass (top 16) 0)) m_Ratio___init__ := by
  obtain ⟨fd_common_part, F_common_part, FO_common_part, hk_common_part, hb_common_part, _⟩ := w_common_part Z
  obtain ⟨fd_is_integer, F_is_integer, FO_is_integer, hk_is_integer, hb_is_integer, _⟩ := w_is_integer Z
  exact (ss_cons (s_if (DL.pt_not (pt_v (p_call F_is_integer (hr.mono (by decide)) (fun (z : false = true) => nomatch z) (Z.glo_is_integer) hk_is_integer hb_is_integer (DL.pa_cons (p_var 1) DL.pa_nil)))) (ss_one s_never) ss_nil) (ss_cons (s_if (PWD.pt (DL.pw_or (DL.pt_not (pt_v (p_call F_is_integer (hr.mono (by decide)) (fun (z : false = true) => nomatch z) (Z.glo_is_integer) hk_is_integer hb_is_integer (DL.pa_cons (p_var 2) DL.pa_nil)))) (pw_one (pt_cmp (op_eqF false) (p_var 2) p_int rfl)))) (ss_one s_never) ss_nil) (ss_cons (s_set 3 S_Ratio___init__.nd (p_call F_common_part (hr.mono (by decide)) (fun (z : false = true) => nomatch z) (Z.glo_common_part) hk_common_part hb_common_part (DL.pa_cons (p_var 1) (DL.pa_cons (p_var 2) DL.pa_nil)))) (ss_cons (s_if (pt_cmp op_ltI (p_var 2) p_int rfl) (ss_one (s_set 3 S_Ratio___init__.nd (p_bin op_subI p_int (p_var 3)))) ss_nil) (ss_cons (s_fld 0 0 Z.cl0 Z.no_Ratio_own_top (p_bin op_divI (p_var 1) (p_var 3))) (ss_one (s_fld 0 1 Z.cl0 Z.no_Ratio_own_bottom (p_bin op_divI (p_var 2) (p_var 3)))))))))
theorem w_Ratio___init__ {P : Program} {w : World} {K : Fr'} {mg : Str → Option Value} {base : Heap} (Z : Zx P w K mg base) : ∃ fd, FnD false P w K mg base 2 (He.ma K (He.ga K "Ratio") "__init__") fd ["self", "top", "bottom"] (spMk K (csK K) (He.ga K "Ratio") 2 d_Ratio___init__) ∧ (∃ ds, Vals (([.int 1] : List He.Dv).map (He.Dv.v K) |>.drop 0) ds ∧ Binds K fd ["self", "top", "bottom"] ds) ∧ (∃ ds, Vals (([.int 1] : List He.Dv).map (He.Dv.v K) |>.drop 1) ds ∧ Binds K fd ["self", "top", "bottom"] ds) := by
  obtain ⟨fd, D⟩ := Z.says.def_ 5 (d := z_Ratio___init__)
  refine ⟨fd, fn_i (N := N_Ratio___init__) Z.cl0 D S_Ratio___init__ rfl fun cdv A outer s H E hr hg => b_Ratio___init__ Z cdv A outer s H E hr hg, ?_, ?_⟩
  · exact D.binds1 2 0 (by simp [z_Ratio___init__, DefZ.dvs]) (by rfl) (fun _ _ _ _ _ _ _ us its hl hi => match us, its, hl, hi with
    | [a0, a1], [b0], _, _ => ⟨_, rfl, rfl⟩)
  · exact D.binds1 3 1 (by simp [z_Ratio___init__, DefZ.dvs]) (by rfl) (fun _ _ _ _ _ _ _ us its hl hi => match us, its, hl, hi with
    | [a0, a1, a2], [b0], _, _ => ⟨_, rfl, rfl⟩)
def mk_Ratio_1 (fm : List D → Mo D) : List D → Mo D := fun ds => lenM 1 (fun ds => fm (ds ++ [.int 1])) ds
theorem mkW_Ratio_1 {P : Program} {w : World} {K : Fr'} {mg : Str → Option Value} {base : Heap} {X : Cx} {e0 : Expr} {p pos : Pos} {mm : Env' → Mo (List D)} (Z : Zx P w K mg base) (hr : Room 3 X.A) (ha : PAD (csK K) X [e0] mm) (hX : X.prog = P ∧ X.w = w ∧ X.K = K ∧ X.mg = mg ∧ X.base = base := by exact ⟨rfl, rfl, rfl, rfl, rfl⟩) (hg : Gl X "Ratio" := by rfl)
    (he : starEach [e0] X.env = (false, eval e0 X.env) :: starEach [] X.env := by rfl) (hpl : (backTo pos (starEach [] X.env)).any (·.1) = false := by rfl) : PED (csK K) X (.Call (.Name "Ratio" p) [e0] [] pos) (mCall (mk_Ratio_1 d_Ratio___init__) mm) := by
  obtain ⟨rfl, rfl, rfl, rfl, rfl⟩ := hX
  obtain ⟨fd, F, ⟨ds0, v0, b0⟩, ⟨ds1, v1, b1⟩⟩ := w_Ratio___init__ Z
  exact p_make (n := 1) (dds := [.int 1]) Z.mkr_Ratio F.ok hr Z.glo_Ratio b0 v0 (fun ap B => (reps_cons (by simp only [Rep]; rfl) reps_nil)) ha hg (by decide) he hpl
def mk_Ratio_2 (fm : List D → Mo D) : List D → Mo D := fun ds => lenM 2 (fun ds => fm (ds ++ [])) ds
theorem mkW_Ratio_2 {P : Program} {w : World} {K : Fr'} {mg : Str → Option Value} {base : Heap} {X : Cx} {e0 e1 : Expr} {p pos : Pos} {mm : Env' → Mo (List D)} (Z : Zx P w K mg base) (hr : Room 3 X.A) (ha : PAD (csK K) X [e0, e1] mm) (hX : X.prog = P ∧ X.w = w ∧ X.K = K ∧ X.mg = mg ∧ X.base = base := by exact ⟨rfl, rfl, rfl, rfl, rfl⟩) (hg : Gl X "Ratio" := by rfl)
    (he : starEach [e0, e1] X.env = (false, eval e0 X.env) :: starEach [e1] X.env := by rfl) (hpl : (backTo pos (starEach [e1] X.env)).any (·.1) = false := by rfl) : PED (csK K) X (.Call (.Name "Ratio" p) [e0, e1] [] pos) (mCall (mk_Ratio_2 d_Ratio___init__) mm) := by
  obtain ⟨rfl, rfl, rfl, rfl, rfl⟩ := hX
  obtain ⟨fd, F, ⟨ds0, v0, b0⟩, ⟨ds1, v1, b1⟩⟩ := w_Ratio___init__ Z
  exact p_make (n := 2) (dds := []) Z.mkr_Ratio F.ok hr Z.glo_Ratio b1 v1 (fun ap B => reps_nil) ha hg (by decide) he hpl
/-! told_pair -/
def N_told_pair : List Str := ["value"]
theorem S_told_pair : FnScope N_told_pair ["value"] (defScope (top 17)) := ⟨rfl, rfl, rfl, by decide +kernel, rfl, by decide +kernel, by decide +kernel⟩
def m_told_pair : MS := (mSeq (mIfS (mB (mIsC 0 (mVar 0))) (mRet (mTup (mCons (mFld 0 0 (mVar 0)) (mCons (mFld 0 1 (mVar 0)) mNil)))) mNx) (mSeq (mIfS (mNot (mB (mCall (lenM 1 d_is_integer) (mCons (mVar 0) mNil)))) mNever mNx) (mRet (mTup (mCons (mVar 0) (mCons (mC (.int 1)) mNil))))))
def d_told_pair : List D → Mo D := runD 1 m_told_pair
theorem b_told_pair {P : Program} {w : World} {K : Fr'} {mg : Str → Option Value} {base : Heap} (Z : Zx P w K mg base) (cdv : Value) (A : Around) (outer : List Env) (s : Shared) (H : Hp) (E : XK) (hr : Room 1 (A.deeper (envOfC "told_pair" (defScope (top 17)) s.heap.objs.size (He.ga K "told_pair") cdv))) (hg : false = true → A.guards = some []) :
    PSsD (csK K) (cx0 P w K mg base N_told_pair "told_pair" (defScope (top 17)) (He.ga K "told_pair") cdv A outer s H E) (defBody (top 17)) m_told_pair := by
  obtain ⟨fd_is_integer, F_is_integer, FO_is_integer, hk_is_integer, hb_is_integer, _⟩ := w_is_integer Z
  exact (ss_cons (s_if (pt_v (p_isC Z.isi (Z.cl0).at_ Z.fr_isinstance Z.glo_Ratio (p_var 0))) (ss_one (s_ret (p_tup (DL.pa_cons (p_fld 0 (Z.cl0) Z.no_Ratio_own_top (p_var 0)) (DL.pa_cons (p_fld 1 (Z.cl0) Z.no_Ratio_own_bottom (p_var 0)) DL.pa_nil))))) ss_nil) (ss_cons (s_if (DL.pt_not (pt_v (p_call F_is_integer (hr.mono (by decide)) (fun (z : false = true) => nomatch z) (Z.glo_is_integer) hk_is_integer hb_is_integer (DL.pa_cons (p_var 0) DL.pa_nil)))) (ss_one s_never) ss_nil) (ss_one (s_ret (p_tup (DL.pa_cons (p_var 0) (DL.pa_cons p_int DL.pa_nil)))))))
theorem w_told_pair {P : Program} {w : World} {K : Fr'} {mg : Str → Option Value} {base : Heap} (Z : Zx P w K mg base) : ∃ fd, FnD false P w K mg base 2 (He.ga K "told_pair") fd ["value"] (spD K (csK K) 1 d_told_pair) ∧ True ∧ PySem.W.keepIn K (.ref (He.ga K "told_pair")) = true ∧ Binds K fd ["value"] [] ∧ True := by
  obtain ⟨fd, D⟩ := Z.says.def_ 11 (d := z_told_pair)
  refine ⟨fd, fn_d (N := N_told_pair) D S_told_pair fun cdv A outer s H E hr hg => b_told_pair Z cdv A outer s H E hr hg, trivial, D.kp, D.bindsN (fun _ _ _ _ _ _ us hl => match us, hl with
    | [a0], _ => rfl), trivial⟩
/-! Ratio.__add__ -/
def N_Ratio___add__ : List Str := ["self", "other", "top", "bottom"]
theorem S_Ratio___add__ : FnScope N_Ratio___add__ ["self", "other"] (defScope (inClass (top 16) 6)) := ⟨rfl, rfl, rfl, by decide +kernel, rfl, by decide +kernel, by decide +kernel⟩
def m_Ratio___add__ : MS := (mSeq (mAsg (tgTup 2 (tgCons (tgN 2) (tgCons (tgN 3) tgNil))) (mCall (lenM 1 d_told_pair) (mCons (mVar 1) mNil))) (mRet (mCall (mk_Ratio_2 d_Ratio___init__) (mCons (mBin dAddI (mBin dMulI (mFld 0 0 (mVar 0)) (mVar 3)) (mBin dMulI (mVar 2) (mFld 0 1 (mVar 0)))) (mCons (mBin dMulI (mFld 0 1 (mVar 0)) (mVar 3)) mNil)))))
def d_Ratio___add__ : List D → Mo D := runD 4 m_Ratio___add__
theorem b_Ratio___add__ {P : Program} {w : World} {K : Fr'} {mg : Str → Option Value} {base : Heap} (Z : Zx P w K mg base) (cdv : Value) (A : Around) (outer : List Env) (s : Shared) (H : Hp) (E : XK) (hr : Room 3 (A.deeper (envOfC "Ratio.__add__" (defScope (inClass (top 16) 6)) s.heap.objs.size (He.ma K (He.ga K "Ratio") "__add__") cdv))) (hg : false = true → A.guards = some []) :
    PSsD (csK K) (cx0 P w K mg base N_Ratio___add__ "Ratio.__add__" (defScope (inClass (top 16) 6)) (He.ma K (He.ga K "Ratio") "__add__") cdv A outer s H E) (defBody (inClass (top 16) 6)) m_Ratio___add__ := by
  obtain ⟨fd_told_pair, F_told_pair, FO_told_pair, hk_told_pair, hb_told_pair, _⟩ := w_told_pair Z
  exact (ss_cons (s_asg (p_call F_told_pair (hr.mono (by decide)) (fun (z : false = true) => nomatch z) (Z.glo_told_pair) hk_told_pair hb_told_pair (DL.pa_cons (p_var 1) DL.pa_nil)) (g_tup rfl (gs_cons (g_name 2 S_Ratio___add__.nd) (gs_cons (g_name 3 S_Ratio___add__.nd) gs_nil)))) (ss_one (s_ret (mkW_Ratio_2 Z (hr.mono (by decide)) (DL.pa_cons (p_bin op_addI (p_bin op_mulI (p_fld 0 (Z.cl0) Z.no_Ratio_own_top (p_var 0)) (p_var 3)) (p_bin op_mulI (p_var 2) (p_fld 1 (Z.cl0) Z.no_Ratio_own_bottom (p_var 0)))) (DL.pa_cons (p_bin op_mulI (p_fld 1 (Z.cl0) Z.no_Ratio_own_bottom (p_var 0)) (p_var 3)) DL.pa_nil))))))
theorem w_Ratio___add__ {P : Program} {w : World} {K : Fr'} {mg : Str → Option Value} {base : Heap} (Z : Zx P w K mg base) : ∃ fd, FnD false P w K mg base 4 (He.ma K (He.ga K "Ratio") "__add__") fd ["self", "other"] (spD K (csK K) 2 d_Ratio___add__) ∧ True ∧ PySem.W.keepIn K (.ref (He.ma K (He.ga K "Ratio") "__add__")) = true ∧ Binds K fd ["self", "other"] [] ∧ True := by
  obtain ⟨fd, D⟩ := Z.says.def_ 6 (d := z_Ratio___add__)
  refine ⟨fd, fn_d (N := N_Ratio___add__) D S_Ratio___add__ fun cdv A outer s H E hr hg => b_Ratio___add__ Z cdv A outer s H E hr hg, trivial, D.kp, D.bindsN (fun _ _ _ _ _ _ us hl => match us, hl with
    | [a0, a1], _ => rfl), trivial⟩
/-! Ratio.__sub__ -/
def N_Ratio___sub__ : List Str := ["self", "other", "top", "bottom"]
theorem S_Ratio___sub__ : FnScope N_Ratio___sub__ ["self", "other"] (defScope (inClass (top 16) 8)) := ⟨rfl, rfl, rfl, by decide +kernel, rfl, by decide +kernel, by decide +kernel⟩
def m_Ratio___sub__ : MS := (mSeq (mAsg (tgTup 2 (tgCons (tgN 2) (tgCons (tgN 3) tgNil))) (mCall (lenM 1 d_told_pair) (mCons (mVar 1) mNil))) (mRet (mCall (mk_Ratio_2 d_Ratio___init__) (mCons (mBin dSubI (mBin dMulI (mFld 0 0 (mVar 0)) (mVar 3)) (mBin dMulI (mVar 2) (mFld 0 1 (mVar 0)))) (mCons (mBin dMulI (mFld 0 1 (mVar 0)) (mVar 3)) mNil)))))
def d_Ratio___sub__ : List D → Mo D := runD 4 m_Ratio___sub__
theorem b_Ratio___sub__ {P : Program} {w : World} {K : Fr'} {mg : Str → Option Value} {base : Heap} (Z : Zx P w K mg base) (cdv : Value) (A : Around) (outer : List Env) (s : Shared) (H : Hp) (E : XK) (hr : Room 3 (A.deeper (envOfC "Ratio.__sub__" (defScope (inClass (top 16) 8)) s.heap.objs.size (He.ma K (He.ga K "Ratio") "__sub__") cdv))) (hg : false = true → A.guards = some []) :
    PSsD (csK K) (cx0 P w K mg base N_Ratio___sub__ "Ratio.__sub__" (defScope (inClass (top 16) 8)) (He.ma K (He.ga K "Ratio") "__sub__") cdv A outer s H E) (defBody (inClass (top 16) 8)) m_Ratio___sub__ := by
  obtain ⟨fd_told_pair, F_told_pair, FO_told_pair, hk_told_pair, hb_told_pair, _⟩ := w_told_pair Z
  exact (ss_cons (s_asg (p_call F_told_pair (hr.mono (by decide)) (fun (z : false = true) => nomatch z) (Z.glo_told_pair) hk_told_pair hb_told_pair (DL.pa_cons (p_var 1) DL.pa_nil)) (g_tup rfl (gs_cons (g_name 2 S_Ratio___sub__.nd) (gs_cons (g_name 3 S_Ratio___sub__.nd) gs_nil)))) (ss_one (s_ret (mkW_Ratio_2 Z (hr.mono (by decide)) (DL.pa_cons (p_bin op_subI (p_bin op_mulI (p_fld 0 (Z.cl0) Z.no_Ratio_own_top (p_var 0)) (p_var 3)) (p_bin op_mulI (p_var 2) (p_fld 1 (Z.cl0) Z.no_Ratio_own_bottom (p_var 0)))) (DL.pa_cons (p_bin op_mulI (p_fld 1 (Z.cl0) Z.no_Ratio_own_bottom (p_var 0)) (p_var 3)) DL.pa_nil))))))
theorem w_Ratio___sub__ {P : Program} {w : World} {K : Fr'} {mg : Str → Option Value} {base : Heap} (Z : Zx P w K mg base) : ∃ fd, FnD false P w K mg base 4 (He.ma K (He.ga K "Ratio") "__sub__") fd ["self", "other"] (spD K (csK K) 2 d_Ratio___sub__) ∧ True ∧ PySem.W.keepIn K (.ref (He.ma K (He.ga K "Ratio") "__sub__")) = true ∧ Binds K fd ["self", "other"] [] ∧ True := by
  obtain ⟨fd, D⟩ := Z.says.def_ 7 (d := z_Ratio___sub__)
  refine ⟨fd, fn_d (N := N_Ratio___sub__) D S_Ratio___sub__ fun cdv A outer s H E hr hg => b_Ratio___sub__ Z cdv A outer s H E hr hg, trivial, D.kp, D.bindsN (fun _ _ _ _ _ _ us hl => match us, hl with
    | [a0, a1], _ => rfl), trivial⟩
/-! Ratio.__mul__ -/
def N_Ratio___mul__ : List Str := ["self", "other", "top", "bottom"]
theorem S_Ratio___mul__ : FnScope N_Ratio___mul__ ["self", "other"] (defScope (inClass (top 16) 10)) := ⟨rfl, rfl, rfl, by decide +kernel, rfl, by decide +kernel, by decide +kernel⟩
def m_Ratio___mul__ : MS := (mSeq (mAsg (tgTup 2 (tgCons (tgN 2) (tgCons (tgN 3) tgNil))) (mCall (lenM 1 d_told_pair) (mCons (mVar 1) mNil))) (mRet (mCall (mk_Ratio_2 d_Ratio___init__) (mCons (mBin dMulI (mFld 0 0 (mVar 0)) (mVar 2)) (mCons (mBin dMulI (mFld 0 1 (mVar 0)) (mVar 3)) mNil)))))
def d_Ratio___mul__ : List D → Mo D := runD 4 m_Ratio___mul__
theorem b_Ratio___mul__ {P : Program} {w : World} {K : Fr'} {mg : Str → Option Value} {base : Heap} (Z : Zx P w K mg base) (cdv : Value) (A : Around) (outer : List Env) (s : Shared) (H : Hp) (E : XK) (hr : Room 3 (A.deeper (envOfC "Ratio.__mul__" (defScope (inClass (top 16) 10)) s.heap.objs.size (He.ma K (He.ga K "Ratio") "__mul__") cdv))) (hg : false = true → A.guards = some []) :
    PSsD (csK K) (cx0 P w K mg base N_Ratio___mul__ "Ratio.__mul__" (defScope (inClass (top 16) 10)) (He.ma K (He.ga K "Ratio") "__mul__") cdv A outer s H E) (defBody (inClass (top 16) 10)) m_Ratio___mul__ := by
  obtain ⟨fd_told_pair, F_told_pair, FO_told_pair, hk_told_pair, hb_told_pair, _⟩ := w_told_pair Z
  exact (ss_cons (s_asg (p_call F_told_pair (hr.mono (by decide)) (fun (z : false = true) => nomatch z) (Z.glo_told_pair) hk_told_pair hb_told_pair (DL.pa_cons (p_var 1) DL.pa_nil)) (g_tup rfl (gs_cons (g_name 2 S_Ratio___mul__.nd) (gs_cons (g_name 3 S_Ratio___mul__.nd) gs_nil)))) (ss_one (s_ret (mkW_Ratio_2 Z (hr.mono (by decide)) (DL.pa_cons (p_bin op_mulI (p_fld 0 (Z.cl0) Z.no_Ratio_own_top (p_var 0)) (p_var 2)) (DL.pa_cons (p_bin op_mulI (p_fld 1 (Z.cl0) Z.no_Ratio_own_bottom (p_var 0)) (p_var 3)) DL.pa_nil))))))
theorem w_Ratio___mul__ {P : Program} {w : World} {K : Fr'} {mg : Str → Option Value} {base : Heap} (Z : Zx P w K mg base) : ∃ fd, FnD false P w K mg base 4 (He.ma K (He.ga K "Ratio") "__mul__") fd ["self", "other"] (spD K (csK K) 2 d_Ratio___mul__) ∧ True ∧ PySem.W.keepIn K (.ref (He.ma K (He.ga K "Ratio") "__mul__")) = true ∧ Binds K fd ["self", "other"] [] ∧ True := by
  obtain ⟨fd, D⟩ := Z.says.def_ 8 (d := z_Ratio___mul__)
  refine ⟨fd, fn_d (N := N_Ratio___mul__) D S_Ratio___mul__ fun cdv A outer s H E hr hg => b_Ratio___mul__ Z cdv A outer s H E hr hg, trivial, D.kp, D.bindsN (fun _ _ _ _ _ _ us hl => match us, hl with
    | [a0, a1], _ => rfl), trivial⟩
/-! Ratio.__eq__ -/
def N_Ratio___eq__ : List Str := ["self", "other"]
theorem S_Ratio___eq__ : FnScope N_Ratio___eq__ ["self", "other"] (defScope (inClass (top 16) 17)) := ⟨rfl, rfl, rfl, by decide +kernel, rfl, by decide +kernel, by decide +kernel⟩
def m_Ratio___eq__ : MS := (mSeq (mIfS (mNot (mB (mIsC 0 (mVar 1)))) (mRet (mC (.bl false))) mNx) (mRet (mTV (mAnd (mB (mBin (dEqF false) (mFld 0 0 (mVar 0)) (mFld 0 0 (mVar 1)))) (mB (mBin (dEqF false) (mFld 0 1 (mVar 0)) (mFld 0 1 (mVar 1))))))))
def d_Ratio___eq__ : List D → Mo D := runD 2 m_Ratio___eq__
theorem b_Ratio___eq__ {P : Program} {w : World} {K : Fr'} {mg : Str → Option Value} {base : Heap} (Z : Zx P w K mg base) (cdv : Value) (A : Around) (outer : List Env) (s : Shared) (H : Hp) (E : XK) (hr : Room 0 (A.deeper (envOfC "Ratio.__eq__" (defScope (inClass (top 16) 17)) s.heap.objs.size (He.ma K (He.ga K "Ratio") "__eq__") cdv))) (hg : false = true → A.guards = some []) :
    PSsD (csK K) (cx0 P w K mg base N_Ratio___eq__ "Ratio.__eq__" (defScope (inClass (top 16) 17)) (He.ma K (He.ga K "Ratio") "__eq__") cdv A outer s H E) (defBody (inClass (top 16) 17)) m_Ratio___eq__ := by
  exact (ss_cons (s_if (DL.pt_not (pt_v (p_isC Z.isi (Z.cl0).at_ Z.fr_isinstance Z.glo_Ratio (p_var 1)))) (ss_one (s_ret p_bl)) ss_nil) (ss_one (s_ret (p_and (p_cmp (op_eqF false) (p_fld 0 (Z.cl0) Z.no_Ratio_own_top (p_var 0)) (p_fld 0 (Z.cl0) Z.no_Ratio_own_top (p_var 1)) rfl) (p_one (p_cmp (op_eqF false) (p_fld 1 (Z.cl0) Z.no_Ratio_own_bottom (p_var 0)) (p_fld 1 (Z.cl0) Z.no_Ratio_own_bottom (p_var 1)) rfl))))))
theorem w_Ratio___eq__ {P : Program} {w : World} {K : Fr'} {mg : Str → Option Value} {base : Heap} (Z : Zx P w K mg base) : ∃ fd, FnD false P w K mg base 1 (He.ma K (He.ga K "Ratio") "__eq__") fd ["self", "other"] (spD K (csK K) 2 d_Ratio___eq__) ∧ True ∧ PySem.W.keepIn K (.ref (He.ma K (He.ga K "Ratio") "__eq__")) = true ∧ Binds K fd ["self", "other"] [] ∧ True := by
  obtain ⟨fd, D⟩ := Z.says.def_ 9 (d := z_Ratio___eq__)
  refine ⟨fd, fn_d (N := N_Ratio___eq__) D S_Ratio___eq__ fun cdv A outer s H E hr hg => b_Ratio___eq__ Z cdv A outer s H E hr hg, trivial, D.kp, D.bindsN (fun _ _ _ _ _ _ us hl => match us, hl with
    | [a0, a1], _ => rfl), trivial⟩
/-! Ratio.__repr__ -/
def N_Ratio___repr__ : List Str := ["self"]
theorem S_Ratio___repr__ : FnScope N_Ratio___repr__ ["self"] (defScope (inClass (top 16) 19)) := ⟨rfl, rfl, rfl, by decide +kernel, rfl, by decide +kernel, by decide +kernel⟩
def m_Ratio___repr__ : MS := (mRet (mJs [(mC (.str "Ratio(")), (mFmt (mCall (lenM 1 d_digits_of) (mCons (mFld 0 0 (mVar 0)) mNil))), (mC (.str ", ")), (mFmt (mCall (lenM 1 d_digits_of) (mCons (mFld 0 1 (mVar 0)) mNil))), (mC (.str ")"))]))
def d_Ratio___repr__ : List D → Mo D := runD 1 m_Ratio___repr__
theorem b_Ratio___repr__ {P : Program} {w : World} {K : Fr'} {mg : Str → Option Value} {base : Heap} (Z : Zx P w K mg base) (cdv : Value) (A : Around) (outer : List Env) (s : Shared) (H : Hp) (E : XK) (hr : Room 1 (A.deeper (envOfC "Ratio.__repr__" (defScope (inClass (top 16) 19)) s.heap.objs.size (He.ma K (He.ga K "Ratio") "__repr__") cdv))) (hg : false = true → A.guards = some []) :
    PSsD (csK K) (cx0 P w K mg base N_Ratio___repr__ "Ratio.__repr__" (defScope (inClass (top 16) 19)) (He.ma K (He.ga K "Ratio") "__repr__") cdv A outer s H E) (defBody (inClass (top 16) 19)) m_Ratio___repr__ := by
  obtain ⟨fd_digits_of, F_digits_of, FO_digits_of, hk_digits_of, hb_digits_of, _⟩ := w_digits_of Z
  exact (ss_one (s_ret (p_js (js_cons p_str (js_cons (p_fmt (p_call F_digits_of (hr.mono (by decide)) (fun (z : false = true) => nomatch z) (Z.glo_digits_of) hk_digits_of hb_digits_of (DL.pa_cons (p_fld 0 (Z.cl0) Z.no_Ratio_own_top (p_var 0)) DL.pa_nil))) (js_cons p_str (js_cons (p_fmt (p_call F_digits_of (hr.mono (by decide)) (fun (z : false = true) => nomatch z) (Z.glo_digits_of) hk_digits_of hb_digits_of (DL.pa_cons (p_fld 1 (Z.cl0) Z.no_Ratio_own_bottom (p_var 0)) DL.pa_nil))) (js_cons p_str js_nil))))))))
theorem w_Ratio___repr__ {P : Program} {w : World} {K : Fr'} {mg : Str → Option Value} {base : Heap} (Z : Zx P w K mg base) : ∃ fd, FnD false P w K mg base 2 (He.ma K (He.ga K "Ratio") "__repr__") fd ["self"] (spD K (csK K) 1 d_Ratio___repr__) ∧ True ∧ PySem.W.keepIn K (.ref (He.ma K (He.ga K "Ratio") "__repr__")) = true ∧ Binds K fd ["self"] [] ∧ True := by
  obtain ⟨fd, D⟩ := Z.says.def_ 10 (d := z_Ratio___repr__)
  refine ⟨fd, fn_d (N := N_Ratio___repr__) D S_Ratio___repr__ fun cdv A outer s H E hr hg => b_Ratio___repr__ Z cdv A outer s H E hr hg, trivial, D.kp, D.bindsN (fun _ _ _ _ _ _ us hl => match us, hl with
    | [a0], _ => rfl), trivial⟩
end
end Q
end

section
set_option Elab.async false
set_option linter.all false
set_option maxRecDepth 100000
set_option maxHeartbeats 4000000
/-! Ratio: ==, repr, the operators. -/
namespace Q
open PySem PySem.Spec PyProof.Rows L2 DL
def uq : Nat → List D → List D → Option Bool
  | 0, [.int a, .int b], [.int x, .int y] => some (decide (a = x) && decide (b = y))
  | _, _, _ => none
theorem uq_inv {c : Nat} {fs gs : List D} {b : Bool} (h : uq c fs gs = some b) : ∃ a b' x y, c = 0 ∧ fs = [.int a, .int b'] ∧ gs = [.int x, .int y] ∧ b = (decide (a = x) && decide (b' = y)) := by
  unfold uq at h
  split at h
  · cases h; exact ⟨_, _, _, _, rfl, rfl, rfl, rfl⟩
  · cases h
theorem eq_ratio (a b c d : Int) (p : Pt) : d_Ratio___eq__ [.ins 0 [.int a, .int b], .ins 0 [.int c, .int d]] p = some (.bl (decide (a = c) && decide (b = d)), p) := by
  by_cases h : a = c <;> by_cases h2 : b = d <;> simp [runD, env0, mSeq, mIfS, mNot, mB, mIsC, mVar, isC, mRet, mC, mTV, mAnd, mOr, mBin, mFld, dEqF, flV, retM, DL.bindM, mNx, mCall, lenM, mCons, mNil, mTup, mIsT, isT, d_Ratio___eq__, m_Ratio___eq__, scal, h, h2]
section
variable {P : Program} {w : World} {K : Fr'} {mg : Str → Option Value} {base : Heap} {X : Cx}
theorem ueq (Z : Zx X.prog X.w X.K X.mg X.base) : UEq X (csK X.K) 1 uq := by
  refine ⟨fun c fs gs b h => ?_, fun c fs b h => ?_, Z.inj⟩
  · obtain ⟨a, b', x, y, rfl, rfl, rfl, rfl⟩ := uq_inv h
    obtain ⟨fd, F, _, hk, hb, _⟩ := w_Ratio___eq__ Z
    exact ⟨_, _, _, fd, _, _, Z.cl0, Z.me_Ratio___eq__.at_, Z.me_Ratio___eq__.fn, F, hb, fun p => eq_ratio _ _ _ _ p⟩
  · obtain ⟨a, b', x, y, rfl, h1, h2, rfl⟩ := uq_inv h
    rw [h1] at h2
    cases h2
    simp [runD, env0, mSeq, mIfS, mNot, mB, mIsC, mVar, isC, mRet, mC, mTV, mAnd, mOr, mBin, mFld, dEqF, flV, retM, DL.bindM, mNx, mCall, lenM, mCons, mNil, mTup, mIsT, isT]
def dEqU (ne : Bool) : D → D → Mo D := dOr (dEqR uq 3 ne) (dNeI uq ne)
theorem op_eqU (Z : Zx P w K mg base) (hr : Room 5 X.A) (ne : Bool) (hX : X.prog = P ∧ X.w = w ∧ X.K = K ∧ X.mg = mg ∧ X.base = base := by exact ⟨rfl, rfl, rfl, rfl, rfl⟩) : OpD (csK K) X (compareOp (DQ.opC ne)) (dEqU ne) := by
  obtain ⟨rfl, rfl, rfl, rfl, rfl⟩ := hX
  exact (opD_eqR (k := 1) 3 (ueq Z) hr ne).or (opD_neI (k := 1) (ueq Z) Z.ne (hr.mono (by decide)) ne)
open Classical in
noncomputable def ur (c : Nat) (fs : List D) : Option Str := if h : c = 0 ∧ ∃ t, ∀ p, d_Ratio___repr__ [.ins 0 fs] p = some (.str t, p) then some h.2.choose else none
theorem ur_of {fs : List D} {t : Str} (h : ∀ p, d_Ratio___repr__ [.ins 0 fs] p = some (.str t, p)) : ur 0 fs = some t := by
  have h1 : ∃ t, ∀ p, d_Ratio___repr__ [.ins 0 fs] p = some (.str t, p) := ⟨t, h⟩
  unfold ur
  rw [dif_pos ⟨rfl, h1⟩]
  have h2 := h1.choose_spec (0, 0)
  rw [h (0, 0)] at h2
  cases h2
  rfl
theorem ur_inv {c : Nat} {fs : List D} {t : Str} (h : ur c fs = some t) : c = 0 ∧ ∀ p, d_Ratio___repr__ [.ins 0 fs] p = some (.str t, p) := by
  unfold ur at h
  split at h
  · rename_i z
    cases h
    exact ⟨z.1, z.2.choose_spec⟩
  · cases h
theorem urep (Z : Zx X.prog X.w X.K X.mg X.base) : URep X (csK X.K) 2 ur := by
  refine ⟨fun c fs t h => ?_, Z.inj⟩
  obtain ⟨rfl, h3⟩ := ur_inv h
  obtain ⟨fd, F, _, hk, hb, _⟩ := w_Ratio___repr__ Z
  exact ⟨_, _, _, fd, _, _, Z.cl0, Z.me_Ratio___repr__.at_, Z.me_Ratio___repr__.fn, F, hb, h3⟩
noncomputable def cReprU : List D → Mo D := cRepr ur 3
theorem ca_reprU (Z : Zx P w K mg base) (hr : Room 7 X.A) (hg : X.A.guards = some []) (hX : X.prog = P ∧ X.w = w ∧ X.K = K ∧ X.mg = mg ∧ X.base = base := by exact ⟨rfl, rfl, rfl, rfl, rfl⟩) : CaD (csK K) X (.builtin "repr") cReprU := by
  obtain ⟨rfl, rfl, rfl, rfl, rfl⟩ := hX
  exact ca_repr (k := 2) 3 (urep Z) hr hg
def dAddU : D → D → Mo D := dOr dAddI (dOr (dUser 0 d_Ratio___add__) dCatL)
def dSubU : D → D → Mo D := dOr dSubI (dUser 0 d_Ratio___sub__)
def dMulU : D → D → Mo D := dOr dMulI (dOr (dUser 0 d_Ratio___mul__) dRepL)
theorem op_addU (Z : Zx P w K mg base) (hr : Room 4 X.A) (hX : X.prog = P ∧ X.w = w ∧ X.K = K ∧ X.mg = mg ∧ X.base = base := by exact ⟨rfl, rfl, rfl, rfl, rfl⟩) : OpD (csK K) X (binaryOp .Add) dAddU := by
  obtain ⟨rfl, rfl, rfl, rfl, rfl⟩ := hX
  obtain ⟨fd, F, _, hk, hb, _⟩ := w_Ratio___add__ Z
  exact .or op_addI (.or (opD_user Z.cl0 Z.op_Ratio_Add F hr hb) op_catL)
theorem op_subU (Z : Zx P w K mg base) (hr : Room 4 X.A) (hX : X.prog = P ∧ X.w = w ∧ X.K = K ∧ X.mg = mg ∧ X.base = base := by exact ⟨rfl, rfl, rfl, rfl, rfl⟩) : OpD (csK K) X (binaryOp .Sub) dSubU := by
  obtain ⟨rfl, rfl, rfl, rfl, rfl⟩ := hX
  obtain ⟨fd, F, _, hk, hb, _⟩ := w_Ratio___sub__ Z
  exact .or op_subI (opD_user Z.cl0 Z.op_Ratio_Sub F hr hb)
theorem op_mulU (Z : Zx P w K mg base) (hr : Room 4 X.A) (hX : X.prog = P ∧ X.w = w ∧ X.K = K ∧ X.mg = mg ∧ X.base = base := by exact ⟨rfl, rfl, rfl, rfl, rfl⟩) : OpD (csK K) X (binaryOp .Mult) dMulU := by
  obtain ⟨rfl, rfl, rfl, rfl, rfl⟩ := hX
  obtain ⟨fd, F, _, hk, hb, _⟩ := w_Ratio___mul__ Z
  exact .or op_mulI (.or (opD_user Z.cl0 Z.op_Ratio_Mult F hr hb) op_repL)
end
end Q
end

section
set_option Elab.async false
set_option linter.all false
set_option maxRecDepth 100000
set_option maxHeartbeats 4000000
namespace Q
open PySem PySem.Spec PyProof.Rows L2 DL
noncomputable section
/-! is_count -/
def N_is_count : List Str := ["value"]
theorem S_is_count : FnScope N_is_count ["value"] (defScope (top 10)) := ⟨rfl, rfl, rfl, by decide +kernel, rfl, by decide +kernel, by decide +kernel⟩
def m_is_count : MS := (mRet (mTV (mAnd (mB (mCall (lenM 1 d_is_integer) (mCons (mVar 0) mNil))) (mB (mBin dGe (mVar 0) (mC (.int 0)))))))
def d_is_count : List D → Mo D := runD 1 m_is_count
theorem b_is_count {P : Program} {w : World} {K : Fr'} {mg : Str → Option Value} {base : Heap} (Z : Zx P w K mg base) (cdv : Value) (A : Around) (outer : List Env) (s : Shared) (H : Hp) (E : XK) (hr : Room 1 (A.deeper (envOfC "is_count" (defScope (top 10)) s.heap.objs.size (He.ga K "is_count") cdv))) (hg : false = true → A.guards = some []) :
    PSsD (csK K) (cx0 P w K mg base N_is_count "is_count" (defScope (top 10)) (He.ga K "is_count") cdv A outer s H E) (defBody (top 10)) m_is_count := by
  obtain ⟨fd_is_integer, F_is_integer, FO_is_integer, hk_is_integer, hb_is_integer, _⟩ := w_is_integer Z
  exact (ss_one (s_ret (p_and (p_call F_is_integer (hr.mono (by decide)) (fun (z : false = true) => nomatch z) (Z.glo_is_integer) hk_is_integer hb_is_integer (DL.pa_cons (p_var 0) DL.pa_nil)) (p_one (p_cmp op_geI (p_var 0) p_int rfl)))))
theorem w_is_count {P : Program} {w : World} {K : Fr'} {mg : Str → Option Value} {base : Heap} (Z : Zx P w K mg base) : ∃ fd, FnD false P w K mg base 2 (He.ga K "is_count") fd ["value"] (spD K (csK K) 1 d_is_count) ∧ True ∧ PySem.W.keepIn K (.ref (He.ga K "is_count")) = true ∧ Binds K fd ["value"] [] ∧ True := by
  obtain ⟨fd, D⟩ := Z.says.def_ 1 (d := z_is_count)
  refine ⟨fd, fn_d (N := N_is_count) D S_is_count fun cdv A outer s H E hr hg => b_is_count Z cdv A outer s H E hr hg, trivial, D.kp, D.bindsN (fun _ _ _ _ _ _ us hl => match us, hl with
    | [a0], _ => rfl), trivial⟩
/-! want_prime -/
def N_want_prime : List Str := ["prime"]
theorem S_want_prime : FnScope N_want_prime ["prime"] (defScope (top 20)) := ⟨rfl, rfl, rfl, by decide +kernel, rfl, by decide +kernel, by decide +kernel⟩
def m_want_prime : MS := (mIfS (mOr (mNot (mB (mCall (lenM 1 d_is_integer) (mCons (mVar 0) mNil)))) (mB (mBin (dInF true) (mVar 0) (mC (.tup (([3, 5, 7, 11] : List Int).map .int)))))) mNever mNx)
def d_want_prime : List D → Mo D := runD 1 m_want_prime
theorem b_want_prime {P : Program} {w : World} {K : Fr'} {mg : Str → Option Value} {base : Heap} (Z : Zx P w K mg base) (cdv : Value) (A : Around) (outer : List Env) (s : Shared) (H : Hp) (E : XK) (hr : Room 1 (A.deeper (envOfC "want_prime" (defScope (top 20)) s.heap.objs.size (He.ga K "want_prime") cdv))) (hg : false = true → A.guards = some []) :
    PSsD (csK K) (cx0 P w K mg base N_want_prime "want_prime" (defScope (top 20)) (He.ga K "want_prime") cdv A outer s H E) (defBody (top 20)) m_want_prime := by
  obtain ⟨fd_is_integer, F_is_integer, FO_is_integer, hk_is_integer, hb_is_integer, _⟩ := w_is_integer Z
  obtain ⟨t_PRIMES, h_PRIMES, hs_PRIMES⟩ := Z.c_PRIMES
  exact (ss_one (s_if (PWD.pt (DL.pw_or (DL.pt_not (pt_v (p_call F_is_integer (hr.mono (by decide)) (fun (z : false = true) => nomatch z) (Z.glo_is_integer) hk_is_integer hb_is_integer (DL.pa_cons (p_var 0) DL.pa_nil)))) (pw_one (pt_cmp (op_inF true) (p_var 0) (p_gtup rfl h_PRIMES hs_PRIMES) rfl)))) (ss_one s_never) ss_nil))
theorem w_want_prime {P : Program} {w : World} {K : Fr'} {mg : Str → Option Value} {base : Heap} (Z : Zx P w K mg base) : ∃ fd, FnD false P w K mg base 2 (He.ga K "want_prime") fd ["prime"] (spD K (csK K) 1 d_want_prime) ∧ True ∧ PySem.W.keepIn K (.ref (He.ga K "want_prime")) = true ∧ Binds K fd ["prime"] [] ∧ True := by
  obtain ⟨fd, D⟩ := Z.says.def_ 12 (d := z_want_prime)
  refine ⟨fd, fn_d (N := N_want_prime) D S_want_prime fun cdv A outer s H E hr hg => b_want_prime Z cdv A outer s H E hr hg, trivial, D.kp, D.bindsN (fun _ _ _ _ _ _ us hl => match us, hl with
    | [a0], _ => rfl), trivial⟩
/-! undone_rest -/
def N_undone_rest : List Str := ["number", "prime", "count"]
theorem S_undone_rest : FnScope N_undone_rest ["number", "prime"] (defScope (top 21)) := ⟨rfl, rfl, rfl, by decide +kernel, rfl, by decide +kernel, by decide +kernel⟩
def m_undone_rest : MS := (mSeq (mFor (srcR2 (mCons (mC (.int 1)) (mCons (mVar 1) mNil))) (tgN 2) (mIfS (mB (mBin (dEqF false) (mBin dModI (mCall cInt (mCons (mBin dMulI (mVar 0) (mVar 2)) mNil)) (mVar 1)) (mC (.int 1)))) (mRet (mVar 2)) mNx)) (mRet (mC .non)))
def d_undone_rest : List D → Mo D := runD 3 m_undone_rest
theorem b_undone_rest {P : Program} {w : World} {K : Fr'} {mg : Str → Option Value} {base : Heap} (Z : Zx P w K mg base) (cdv : Value) (A : Around) (outer : List Env) (s : Shared) (H : Hp) (E : XK) (hr : Room 0 (A.deeper (envOfC "undone_rest" (defScope (top 21)) s.heap.objs.size (He.ga K "undone_rest") cdv))) (hg : false = true → A.guards = some []) :
    PSsD (csK K) (cx0 P w K mg base N_undone_rest "undone_rest" (defScope (top 21)) (He.ga K "undone_rest") cdv A outer s H E) (defBody (top 21)) m_undone_rest := by
  exact (ss_cons (s_for PassesOwn.never rfl (i_range2 Z.fr_range (DL.pa_cons p_int (DL.pa_cons (p_var 1) DL.pa_nil))) (g_name 2 S_undone_rest.nd) (ss_one (s_if (pt_cmp (op_eqF false) (p_bin op_modI (p_type ca_int Z.fr_int (DL.pa_cons (p_bin op_mulI (p_var 0) (p_var 2)) DL.pa_nil)) (p_var 1)) p_int rfl) (ss_one (s_ret (p_var 2))) ss_nil))) (ss_one (s_ret p_non)))
theorem w_undone_rest {P : Program} {w : World} {K : Fr'} {mg : Str → Option Value} {base : Heap} (Z : Zx P w K mg base) : ∃ fd, FnD false P w K mg base 1 (He.ga K "undone_rest") fd ["number", "prime"] (spD K (csK K) 2 d_undone_rest) ∧ True ∧ PySem.W.keepIn K (.ref (He.ga K "undone_rest")) = true ∧ Binds K fd ["number", "prime"] [] ∧ True := by
  obtain ⟨fd, D⟩ := Z.says.def_ 13 (d := z_undone_rest)
  refine ⟨fd, fn_d (N := N_undone_rest) D S_undone_rest fun cdv A outer s H E hr hg => b_undone_rest Z cdv A outer s H E hr hg, trivial, D.kp, D.bindsN (fun _ _ _ _ _ _ us hl => match us, hl with
    | [a0, a1], _ => rfl), trivial⟩
/-! places -/
def N_places : List Str := ["prime", "found", "first", "second"]
theorem S_places : FnScope N_places ["prime"] (defScope (top 22)) := ⟨rfl, rfl, rfl, by decide +kernel, rfl, by decide +kernel, by decide +kernel⟩
def m_places : MS := (mSeq (mSetO 1 (mNew mNil)) (mSeq (mFor (srcR1 (mCons (mVar 0) mNil)) (tgN 2) (mExt 1 (mLst (mLc (srcR1 (mCons (mVar 0) mNil)) [3] (tgN 3) mYes (mTup (mCons (mVar 2) (mCons (mVar 3) mNil))))))) (mRetX 1)))
def d_places : List D → Mo D := runD 4 m_places
def o_places : List D → Mo (List D) := runO 4 m_places
theorem b_places {P : Program} {w : World} {K : Fr'} {mg : Str → Option Value} {base : Heap} (Z : Zx P w K mg base) (cdv : Value) (A : Around) (outer : List Env) (s : Shared) (H : Hp) (E : XK) (hr : Room 0 (A.deeper (envOfC "places" (defScope (top 22)) s.heap.objs.size (He.ga K "places") cdv))) (hg : false = true → A.guards = some []) :
    PSsD (csK K) (cx0 P w K mg base N_places "places" (defScope (top 22)) (He.ga K "places") cdv A outer s H E) (defBody (top 22)) m_places := by
  exact (ss_cons (s_setO 1 S_places.nd (o_lst DL.pa_nil)) (ss_cons (s_for PassesOwn.never rfl (i_range1 Z.fr_range (DL.pa_cons (p_var 0) DL.pa_nil)) (g_name 2 S_places.nd) (ss_one (s_ext 1 (POD.d (o_lc [("second", 3)] rfl S_places.nd (blkOk_by rfl) ((i_range1 Z.fr_range (DL.pa_cons (p_var 0) DL.pa_nil))).j (fun _ _ _ _ _ => (g_name 3 S_places.nd)) (fun _ _ _ _ _ => ts_nil) (fun _ _ _ _ _ => (p_tup (DL.pa_cons (p_var 2) (DL.pa_cons (p_var 3) DL.pa_nil))))))))) (ss_one (s_retX 1))))
theorem w_places {P : Program} {w : World} {K : Fr'} {mg : Str → Option Value} {base : Heap} (Z : Zx P w K mg base) : ∃ fd, FnD false P w K mg base 1 (He.ga K "places") fd ["prime"] (spD K (csK K) 1 d_places) ∧ FnD false P w K mg base 1 (He.ga K "places") fd ["prime"] (spO K (csK K) 1 o_places) ∧ PySem.W.keepIn K (.ref (He.ga K "places")) = true ∧ Binds K fd ["prime"] [] ∧ True := by
  obtain ⟨fd, D⟩ := Z.says.def_ 14 (d := z_places)
  refine ⟨fd, fn_d (N := N_places) D S_places fun cdv A outer s H E hr hg => b_places Z cdv A outer s H E hr hg, fn_dO (N := N_places) D S_places fun cdv A outer s H E hr hg => b_places Z cdv A outer s H E hr hg, D.kp, D.bindsN (fun _ _ _ _ _ _ us hl => match us, hl with
    | [a0], _ => rfl), trivial⟩
/-! spot_of -/
def N_spot_of : List Str := ["prime", "place"]
theorem S_spot_of : FnScope N_spot_of ["prime", "place"] (defScope (top 23)) := ⟨rfl, rfl, rfl, by decide +kernel, rfl, by decide +kernel, by decide +kernel⟩
def m_spot_of : MS := (mRet (mBin dAddI (mBin dMulI (mBin atD (mVar 1) (mC (.int 0))) (mVar 0)) (mBin atD (mVar 1) (mC (.int 1)))))
def d_spot_of : List D → Mo D := runD 2 m_spot_of
theorem b_spot_of {P : Program} {w : World} {K : Fr'} {mg : Str → Option Value} {base : Heap} (Z : Zx P w K mg base) (cdv : Value) (A : Around) (outer : List Env) (s : Shared) (H : Hp) (E : XK) (hr : Room 0 (A.deeper (envOfC "spot_of" (defScope (top 23)) s.heap.objs.size (He.ga K "spot_of") cdv))) (hg : false = true → A.guards = some []) :
    PSsD (csK K) (cx0 P w K mg base N_spot_of "spot_of" (defScope (top 23)) (He.ga K "spot_of") cdv A outer s H E) (defBody (top 23)) m_spot_of := by
  exact (ss_one (s_ret (p_bin op_addI (p_bin op_mulI (p_ix (p_var 1) p_int) (p_var 0)) (p_ix (p_var 1) p_int))))
theorem w_spot_of {P : Program} {w : World} {K : Fr'} {mg : Str → Option Value} {base : Heap} (Z : Zx P w K mg base) : ∃ fd, FnD false P w K mg base 1 (He.ga K "spot_of") fd ["prime", "place"] (spD K (csK K) 2 d_spot_of) ∧ True ∧ PySem.W.keepIn K (.ref (He.ga K "spot_of")) = true ∧ Binds K fd ["prime", "place"] [] ∧ True := by
  obtain ⟨fd, D⟩ := Z.says.def_ 15 (d := z_spot_of)
  refine ⟨fd, fn_d (N := N_spot_of) D S_spot_of fun cdv A outer s H E hr hg => b_spot_of Z cdv A outer s H E hr hg, trivial, D.kp, D.bindsN (fun _ _ _ _ _ _ us hl => match us, hl with
    | [a0, a1], _ => rfl), trivial⟩
/-! is_deal_of -/
def N_is_deal_of : List Str := ["prime", "value"]
theorem S_is_deal_of : FnScope N_is_deal_of ["prime", "value"] (defScope (top 24)) := ⟨rfl, rfl, rfl, by decide +kernel, rfl, by decide +kernel, by decide +kernel⟩
def m_is_deal_of : MS := (mRet (mBin (dEqU false) (mCall cSorted (mCons (mVar 1) mNil)) (mLst (oRg1 (mBin dMulI (mVar 0) (mVar 0))))))
def d_is_deal_of : List D → Mo D := runD 2 m_is_deal_of
theorem b_is_deal_of {P : Program} {w : World} {K : Fr'} {mg : Str → Option Value} {base : Heap} (Z : Zx P w K mg base) (cdv : Value) (A : Around) (outer : List Env) (s : Shared) (H : Hp) (E : XK) (hr : Room 5 (A.deeper (envOfC "is_deal_of" (defScope (top 24)) s.heap.objs.size (He.ga K "is_deal_of") cdv))) (hg : false = true → A.guards = some []) :
    PSsD (csK K) (cx0 P w K mg base N_is_deal_of "is_deal_of" (defScope (top 24)) (He.ga K "is_deal_of") cdv A outer s H E) (defBody (top 24)) m_is_deal_of := by
  exact (ss_one (s_ret (p_cmp (op_eqU Z (hr.mono (by decide)) false) (p_bltn ca_sorted Z.fr_sorted (DL.pa_cons (p_var 1) DL.pa_nil)) (POD.d (o_listRg1 rfl Z.fr_list Z.fr_range (p_bin op_mulI (p_var 0) (p_var 0)))) rfl)))
theorem w_is_deal_of {P : Program} {w : World} {K : Fr'} {mg : Str → Option Value} {base : Heap} (Z : Zx P w K mg base) : ∃ fd, FnD false P w K mg base 6 (He.ga K "is_deal_of") fd ["prime", "value"] (spD K (csK K) 2 d_is_deal_of) ∧ True ∧ PySem.W.keepIn K (.ref (He.ga K "is_deal_of")) = true ∧ Binds K fd ["prime", "value"] [] ∧ True := by
  obtain ⟨fd, D⟩ := Z.says.def_ 16 (d := z_is_deal_of)
  refine ⟨fd, fn_d (N := N_is_deal_of) D S_is_deal_of fun cdv A outer s H E hr hg => b_is_deal_of Z cdv A outer s H E hr hg, trivial, D.kp, D.bindsN (fun _ _ _ _ _ _ us hl => match us, hl with
    | [a0, a1], _ => rfl), trivial⟩
/-! behind_table -/
def N_behind_table : List Str := ["one", "other", "spot"]
theorem S_behind_table : FnScope N_behind_table ["one", "other"] (defScope (top 25)) := ⟨rfl, rfl, rfl, by decide +kernel, rfl, by decide +kernel, by decide +kernel⟩
def m_behind_table : MS := (mRetO (mLc (srcL (mVar 1)) [2] (tgN 2) mYes (mBin atD (mVar 0) (mVar 2))))
def d_behind_table : List D → Mo D := runD 3 m_behind_table
def o_behind_table : List D → Mo (List D) := runO 3 m_behind_table
theorem b_behind_table {P : Program} {w : World} {K : Fr'} {mg : Str → Option Value} {base : Heap} (Z : Zx P w K mg base) (cdv : Value) (A : Around) (outer : List Env) (s : Shared) (H : Hp) (E : XK) (hr : Room 0 (A.deeper (envOfC "behind_table" (defScope (top 25)) s.heap.objs.size (He.ga K "behind_table") cdv))) (hg : false = true → A.guards = some []) :
    PSsD (csK K) (cx0 P w K mg base N_behind_table "behind_table" (defScope (top 25)) (He.ga K "behind_table") cdv A outer s H E) (defBody (top 25)) m_behind_table := by
  exact (ss_one (s_retO (o_lc [("spot", 2)] rfl S_behind_table.nd (blkOk_by rfl) ((i_list (p_var 1))).j (fun _ _ _ _ _ => (g_name 2 S_behind_table.nd)) (fun _ _ _ _ _ => ts_nil) (fun _ _ _ _ _ => (p_ix (p_var 0) (p_var 2))))))
theorem w_behind_table {P : Program} {w : World} {K : Fr'} {mg : Str → Option Value} {base : Heap} (Z : Zx P w K mg base) : ∃ fd, FnD false P w K mg base 1 (He.ga K "behind_table") fd ["one", "other"] (spD K (csK K) 2 d_behind_table) ∧ FnD false P w K mg base 1 (He.ga K "behind_table") fd ["one", "other"] (spO K (csK K) 2 o_behind_table) ∧ PySem.W.keepIn K (.ref (He.ga K "behind_table")) = true ∧ Binds K fd ["one", "other"] [] ∧ True := by
  obtain ⟨fd, D⟩ := Z.says.def_ 17 (d := z_behind_table)
  refine ⟨fd, fn_d (N := N_behind_table) D S_behind_table fun cdv A outer s H E hr hg => b_behind_table Z cdv A outer s H E hr hg, fn_dO (N := N_behind_table) D S_behind_table fun cdv A outer s H E hr hg => b_behind_table Z cdv A outer s H E hr hg, D.kp, D.bindsN (fun _ _ _ _ _ _ us hl => match us, hl with
    | [a0, a1], _ => rfl), trivial⟩
/-! is_dealt -/
def N_is_dealt : List Str := ["prime", "value", "spot"]
theorem S_is_dealt : FnScope N_is_dealt ["prime", "value"] (defScope (top 27)) := ⟨rfl, rfl, rfl, by decide +kernel, rfl, by decide +kernel, by decide +kernel⟩
def m_is_dealt : MS := (mSeq (mIfS (mOr (mNot (mB (mCall (lenM 1 d_is_list) (mCons (mVar 1) mNil)))) (mOr (mB (mBin (dEqF true) (mCall cLen (mCons (mVar 1) mNil)) (mBin dMulI (mVar 0) (mVar 0)))) (mNot (mB (mCall cAll (mCons (mLst (mLc (srcS (mVar 1)) [2] (tgN 2) mYes (mCall (lenM 1 d_is_count) (mCons (mVar 2) mNil)))) mNil)))))) (mRet (mC (.bl false))) mNx) (mRet (mCall (lenM 2 d_is_deal_of) (mCons (mVar 0) (mCons (mVar 1) mNil)))))
def d_is_dealt : List D → Mo D := runD 3 m_is_dealt
theorem b_is_dealt {P : Program} {w : World} {K : Fr'} {mg : Str → Option Value} {base : Heap} (Z : Zx P w K mg base) (cdv : Value) (A : Around) (outer : List Env) (s : Shared) (H : Hp) (E : XK) (hr : Room 6 (A.deeper (envOfC "is_dealt" (defScope (top 27)) s.heap.objs.size (He.ga K "is_dealt") cdv))) (hg : false = true → A.guards = some []) :
    PSsD (csK K) (cx0 P w K mg base N_is_dealt "is_dealt" (defScope (top 27)) (He.ga K "is_dealt") cdv A outer s H E) (defBody (top 27)) m_is_dealt := by
  obtain ⟨fd_is_count, F_is_count, FO_is_count, hk_is_count, hb_is_count, _⟩ := w_is_count Z
  obtain ⟨fd_is_deal_of, F_is_deal_of, FO_is_deal_of, hk_is_deal_of, hb_is_deal_of, _⟩ := w_is_deal_of Z
  obtain ⟨fd_is_list, F_is_list, FO_is_list, hk_is_list, hb_is_list, _⟩ := w_is_list Z
  exact (ss_cons (s_if (PWD.pt (DL.pw_or (DL.pt_not (pt_v (p_call F_is_list (hr.mono (by decide)) (fun (z : false = true) => nomatch z) (Z.glo_is_list) hk_is_list hb_is_list (DL.pa_cons (p_var 1) DL.pa_nil)))) (DL.pw_or (pt_cmp (op_eqF true) (p_bltn ca_len Z.fr_len (DL.pa_cons (p_var 1) DL.pa_nil)) (p_bin op_mulI (p_var 0) (p_var 0)) rfl) (pw_one (DL.pt_not (pt_v (p_bltn (ca_all rfl) Z.fr_all (DL.pa_cons (POD.d (o_lc [("spot", 2)] rfl S_is_dealt.nd (blkOk_by rfl) ((i_seq (p_var 1))).j (fun _ _ _ _ _ => (g_name 2 S_is_dealt.nd)) (fun _ _ _ _ _ => ts_nil) (fun _ _ _ _ _ => (p_call F_is_count (hr.mono (by decide)) (fun (z : false = true) => nomatch z) (Z.glo_is_count) hk_is_count hb_is_count (DL.pa_cons (p_var 2) DL.pa_nil))))) DL.pa_nil)))))))) (ss_one (s_ret p_bl)) ss_nil) (ss_one (s_ret (p_call F_is_deal_of (hr.mono (by decide)) (fun (z : false = true) => nomatch z) (Z.glo_is_deal_of) hk_is_deal_of hb_is_deal_of (DL.pa_cons (p_var 0) (DL.pa_cons (p_var 1) DL.pa_nil))))))
theorem w_is_dealt {P : Program} {w : World} {K : Fr'} {mg : Str → Option Value} {base : Heap} (Z : Zx P w K mg base) : ∃ fd, FnD false P w K mg base 7 (He.ga K "is_dealt") fd ["prime", "value"] (spD K (csK K) 2 d_is_dealt) ∧ True ∧ PySem.W.keepIn K (.ref (He.ga K "is_dealt")) = true ∧ Binds K fd ["prime", "value"] [] ∧ True := by
  obtain ⟨fd, D⟩ := Z.says.def_ 18 (d := z_is_dealt)
  refine ⟨fd, fn_d (N := N_is_dealt) D S_is_dealt fun cdv A outer s H E hr hg => b_is_dealt Z cdv A outer s H E hr hg, trivial, D.kp, D.bindsN (fun _ _ _ _ _ _ us hl => match us, hl with
    | [a0, a1], _ => rfl), trivial⟩
/-! want_deal -/
def N_want_deal : List Str := ["prime", "deal"]
theorem S_want_deal : FnScope N_want_deal ["prime", "deal"] (defScope (top 28)) := ⟨rfl, rfl, rfl, by decide +kernel, rfl, by decide +kernel, by decide +kernel⟩
def m_want_deal : MS := (mSeq (mIfS (mNot (mB (mCall (lenM 2 d_is_dealt) (mCons (mVar 0) (mCons (mVar 1) mNil))))) mNever mNx) (mRetO (mCallO oListC (mCons (mVar 1) mNil))))
def d_want_deal : List D → Mo D := runD 2 m_want_deal
def o_want_deal : List D → Mo (List D) := runO 2 m_want_deal
theorem b_want_deal {P : Program} {w : World} {K : Fr'} {mg : Str → Option Value} {base : Heap} (Z : Zx P w K mg base) (cdv : Value) (A : Around) (outer : List Env) (s : Shared) (H : Hp) (E : XK) (hr : Room 7 (A.deeper (envOfC "want_deal" (defScope (top 28)) s.heap.objs.size (He.ga K "want_deal") cdv))) (hg : false = true → A.guards = some []) :
    PSsD (csK K) (cx0 P w K mg base N_want_deal "want_deal" (defScope (top 28)) (He.ga K "want_deal") cdv A outer s H E) (defBody (top 28)) m_want_deal := by
  obtain ⟨fd_is_dealt, F_is_dealt, FO_is_dealt, hk_is_dealt, hb_is_dealt, _⟩ := w_is_dealt Z
  exact (ss_cons (s_if (DL.pt_not (pt_v (p_call F_is_dealt (hr.mono (by decide)) (fun (z : false = true) => nomatch z) (Z.glo_is_dealt) hk_is_dealt hb_is_dealt (DL.pa_cons (p_var 0) (DL.pa_cons (p_var 1) DL.pa_nil))))) (ss_one s_never) ss_nil) (ss_one (s_retO (o_listOf Z.fr_list (DL.pa_cons (p_var 1) DL.pa_nil)))))
theorem w_want_deal {P : Program} {w : World} {K : Fr'} {mg : Str → Option Value} {base : Heap} (Z : Zx P w K mg base) : ∃ fd, FnD false P w K mg base 8 (He.ga K "want_deal") fd ["prime", "deal"] (spD K (csK K) 2 d_want_deal) ∧ FnD false P w K mg base 8 (He.ga K "want_deal") fd ["prime", "deal"] (spO K (csK K) 2 o_want_deal) ∧ PySem.W.keepIn K (.ref (He.ga K "want_deal")) = true ∧ Binds K fd ["prime", "deal"] [] ∧ True := by
  obtain ⟨fd, D⟩ := Z.says.def_ 19 (d := z_want_deal)
  refine ⟨fd, fn_d (N := N_want_deal) D S_want_deal fun cdv A outer s H E hr hg => b_want_deal Z cdv A outer s H E hr hg, fn_dO (N := N_want_deal) D S_want_deal fun cdv A outer s H E hr hg => b_want_deal Z cdv A outer s H E hr hg, D.kp, D.bindsN (fun _ _ _ _ _ _ us hl => match us, hl with
    | [a0, a1], _ => rfl), trivial⟩
/-! is_deal -/
def N_is_deal : List Str := ["prime", "value"]
theorem S_is_deal : FnScope N_is_deal ["prime", "value"] (defScope (top 29)) := ⟨rfl, rfl, rfl, by decide +kernel, rfl, by decide +kernel, by decide +kernel⟩
def m_is_deal : MS := (mSeq (mDrop (mCall (lenM 1 d_want_prime) (mCons (mVar 0) mNil))) (mRet (mCall (lenM 2 d_is_dealt) (mCons (mVar 0) (mCons (mVar 1) mNil)))))
def d_is_deal : List D → Mo D := runD 2 m_is_deal
theorem b_is_deal {P : Program} {w : World} {K : Fr'} {mg : Str → Option Value} {base : Heap} (Z : Zx P w K mg base) (cdv : Value) (A : Around) (outer : List Env) (s : Shared) (H : Hp) (E : XK) (hr : Room 7 (A.deeper (envOfC "is_deal" (defScope (top 29)) s.heap.objs.size (He.ga K "is_deal") cdv))) (hg : false = true → A.guards = some []) :
    PSsD (csK K) (cx0 P w K mg base N_is_deal "is_deal" (defScope (top 29)) (He.ga K "is_deal") cdv A outer s H E) (defBody (top 29)) m_is_deal := by
  obtain ⟨fd_is_dealt, F_is_dealt, FO_is_dealt, hk_is_dealt, hb_is_dealt, _⟩ := w_is_dealt Z
  obtain ⟨fd_want_prime, F_want_prime, FO_want_prime, hk_want_prime, hb_want_prime, _⟩ := w_want_prime Z
  exact (ss_cons (s_expr (p_call F_want_prime (hr.mono (by decide)) (fun (z : false = true) => nomatch z) (Z.glo_want_prime) hk_want_prime hb_want_prime (DL.pa_cons (p_var 0) DL.pa_nil))) (ss_one (s_ret (p_call F_is_dealt (hr.mono (by decide)) (fun (z : false = true) => nomatch z) (Z.glo_is_dealt) hk_is_dealt hb_is_dealt (DL.pa_cons (p_var 0) (DL.pa_cons (p_var 1) DL.pa_nil))))))
theorem w_is_deal {P : Program} {w : World} {K : Fr'} {mg : Str → Option Value} {base : Heap} (Z : Zx P w K mg base) : ∃ fd, FnD false P w K mg base 8 (He.ga K "is_deal") fd ["prime", "value"] (spD K (csK K) 2 d_is_deal) ∧ True ∧ PySem.W.keepIn K (.ref (He.ga K "is_deal")) = true ∧ Binds K fd ["prime", "value"] [] ∧ KwB fd ["prime", "value"] ["value", "prime"] [1, 0] ∧ True := by
  obtain ⟨fd, D⟩ := Z.says.def_ 20 (d := z_is_deal)
  refine ⟨fd, fn_d (N := N_is_deal) D S_is_deal fun cdv A outer s H E hr hg => b_is_deal Z cdv A outer s H E hr hg, trivial, D.kp, D.bindsN (fun _ _ _ _ _ _ us hl => match us, hl with
    | [a0, a1], _ => rfl), FunD.kwB D ["prime", "value"] ["value", "prime"] [1, 0] (fun _ _ _ _ _ _ us hl => match us, hl with
    | [a0, a1], _ => rfl), trivial⟩
/-! are_values -/
def N_are_values : List Str := ["prime", "value", "one"]
theorem S_are_values : FnScope N_are_values ["prime", "value"] (defScope (top 35)) := ⟨rfl, rfl, rfl, by decide +kernel, rfl, by decide +kernel, by decide +kernel⟩
def m_are_values : MS := (mRet (mTV (mAnd (mB (mCall (lenM 1 d_is_list) (mCons (mVar 1) mNil))) (mB (mTV (mAnd (mB (mBin (dEqF false) (mCall cLen (mCons (mVar 1) mNil)) (mVar 0))) (mB (mCall cAll (mCons (mLst (mLc (srcS (mVar 1)) [2] (tgN 2) mYes (mTV (mAnd (mB (mCall (lenM 1 d_is_count) (mCons (mVar 2) mNil))) (mB (mBin dLt (mVar 2) (mVar 0))))))) mNil)))))))))
def d_are_values : List D → Mo D := runD 3 m_are_values
theorem b_are_values {P : Program} {w : World} {K : Fr'} {mg : Str → Option Value} {base : Heap} (Z : Zx P w K mg base) (cdv : Value) (A : Around) (outer : List Env) (s : Shared) (H : Hp) (E : XK) (hr : Room 2 (A.deeper (envOfC "are_values" (defScope (top 35)) s.heap.objs.size (He.ga K "are_values") cdv))) (hg : false = true → A.guards = some []) :
    PSsD (csK K) (cx0 P w K mg base N_are_values "are_values" (defScope (top 35)) (He.ga K "are_values") cdv A outer s H E) (defBody (top 35)) m_are_values := by
  obtain ⟨fd_is_count, F_is_count, FO_is_count, hk_is_count, hb_is_count, _⟩ := w_is_count Z
  obtain ⟨fd_is_list, F_is_list, FO_is_list, hk_is_list, hb_is_list, _⟩ := w_is_list Z
  exact (ss_one (s_ret (p_and (p_call F_is_list (hr.mono (by decide)) (fun (z : false = true) => nomatch z) (Z.glo_is_list) hk_is_list hb_is_list (DL.pa_cons (p_var 1) DL.pa_nil)) (p_and (p_cmp (op_eqF false) (p_bltn ca_len Z.fr_len (DL.pa_cons (p_var 1) DL.pa_nil)) (p_var 0) rfl) (p_one (p_bltn (ca_all rfl) Z.fr_all (DL.pa_cons (POD.d (o_lc [("one", 2)] rfl S_are_values.nd (blkOk_by rfl) ((i_seq (p_var 1))).j (fun _ _ _ _ _ => (g_name 2 S_are_values.nd)) (fun _ _ _ _ _ => ts_nil) (fun _ _ _ _ _ => (p_and (p_call F_is_count (hr.mono (by decide)) (fun (z : false = true) => nomatch z) (Z.glo_is_count) hk_is_count hb_is_count (DL.pa_cons (p_var 2) DL.pa_nil)) (p_one (p_cmp op_ltI (p_var 2) (p_var 0) rfl)))))) DL.pa_nil)))))))
theorem w_are_values {P : Program} {w : World} {K : Fr'} {mg : Str → Option Value} {base : Heap} (Z : Zx P w K mg base) : ∃ fd, FnD false P w K mg base 3 (He.ga K "are_values") fd ["prime", "value"] (spD K (csK K) 2 d_are_values) ∧ True ∧ PySem.W.keepIn K (.ref (He.ga K "are_values")) = true ∧ Binds K fd ["prime", "value"] [] ∧ True := by
  obtain ⟨fd, D⟩ := Z.says.def_ 21 (d := z_are_values)
  refine ⟨fd, fn_d (N := N_are_values) D S_are_values fun cdv A outer s H E hr hg => b_are_values Z cdv A outer s H E hr hg, trivial, D.kp, D.bindsN (fun _ _ _ _ _ _ us hl => match us, hl with
    | [a0, a1], _ => rfl), trivial⟩
/-! is_move -/
def N_is_move : List Str := ["prime", "value"]
theorem S_is_move : FnScope N_is_move ["prime", "value"] (defScope (top 36)) := ⟨rfl, rfl, rfl, by decide +kernel, rfl, by decide +kernel, by decide +kernel⟩
def m_is_move : MS := (mSeq (mIfS (mOr (mNot (mB (mIsT "tuple" (mVar 1)))) (mOr (mB (mBin (dEqF true) (mCall cLen (mCons (mVar 1) mNil)) (mC (.int 2)))) (mNot (mB (mIsT "str" (mBin atD (mVar 1) (mC (.int 0)))))))) (mRet (mC (.bl false))) mNx) (mSeq (mIfS (mB (mBin (dEqF false) (mBin atD (mVar 1) (mC (.int 0))) (mC (.str "turn")))) (mRet (mTV (mAnd (mB (mCall (lenM 1 d_is_count) (mCons (mBin atD (mVar 1) (mC (.int 1))) mNil))) (mB (mChain dLt dLt (mC (.int 0)) (mBin atD (mVar 1) (mC (.int 1))) (mVar 0)))))) mNx) (mRet (mTV (mAnd (mB (mBin (dInF false) (mBin atD (mVar 1) (mC (.int 0))) (mTup (mCons (mC (.str "y")) (mCons (mC (.str "x")) mNil))))) (mB (mCall (lenM 2 d_are_values) (mCons (mVar 0) (mCons (mBin atD (mVar 1) (mC (.int 1))) mNil)))))))))
def d_is_move : List D → Mo D := runD 2 m_is_move
theorem b_is_move {P : Program} {w : World} {K : Fr'} {mg : Str → Option Value} {base : Heap} (Z : Zx P w K mg base) (cdv : Value) (A : Around) (outer : List Env) (s : Shared) (H : Hp) (E : XK) (hr : Room 3 (A.deeper (envOfC "is_move" (defScope (top 36)) s.heap.objs.size (He.ga K "is_move") cdv))) (hg : false = true → A.guards = some []) :
    PSsD (csK K) (cx0 P w K mg base N_is_move "is_move" (defScope (top 36)) (He.ga K "is_move") cdv A outer s H E) (defBody (top 36)) m_is_move := by
  obtain ⟨fd_are_values, F_are_values, FO_are_values, hk_are_values, hb_are_values, _⟩ := w_are_values Z
  obtain ⟨fd_is_count, F_is_count, FO_is_count, hk_is_count, hb_is_count, _⟩ := w_is_count Z
  obtain ⟨t_COLUMNS, h_COLUMNS⟩ := Z.c_COLUMNS
  obtain ⟨t_ROWS, h_ROWS⟩ := Z.c_ROWS
  obtain ⟨t_TURN, h_TURN⟩ := Z.c_TURN
  exact (ss_cons (s_if (PWD.pt (DL.pw_or (DL.pt_not (pt_v (p_isT "tuple" Z.isi Z.fr_isinstance Z.fr_tuple (p_var 1)))) (DL.pw_or (pt_cmp (op_eqF true) (p_bltn ca_len Z.fr_len (DL.pa_cons (p_var 1) DL.pa_nil)) p_int rfl) (pw_one (DL.pt_not (pt_v (p_isT "str" Z.isi Z.fr_isinstance Z.fr_str (p_ix (p_var 1) p_int)))))))) (ss_one (s_ret p_bl)) ss_nil) (ss_cons (s_if (pt_cmp (op_eqF false) (p_ix (p_var 1) p_int) (p_gstr rfl h_TURN) rfl) (ss_one (s_ret (p_and (p_call F_is_count (hr.mono (by decide)) (fun (z : false = true) => nomatch z) (Z.glo_is_count) hk_is_count hb_is_count (DL.pa_cons (p_ix (p_var 1) p_int) DL.pa_nil)) (p_one (p_chain op_ltI op_ltI p_int (p_ix (p_var 1) p_int) (p_var 0)))))) ss_nil) (ss_one (s_ret (p_and (p_cmp (op_inF false) (p_ix (p_var 1) p_int) (p_tup (DL.pa_cons (p_gstr rfl h_COLUMNS) (DL.pa_cons (p_gstr rfl h_ROWS) DL.pa_nil))) rfl) (p_one (p_call F_are_values (hr.mono (by decide)) (fun (z : false = true) => nomatch z) (Z.glo_are_values) hk_are_values hb_are_values (DL.pa_cons (p_var 0) (DL.pa_cons (p_ix (p_var 1) p_int) DL.pa_nil)))))))))
theorem w_is_move {P : Program} {w : World} {K : Fr'} {mg : Str → Option Value} {base : Heap} (Z : Zx P w K mg base) : ∃ fd, FnD false P w K mg base 4 (He.ga K "is_move") fd ["prime", "value"] (spD K (csK K) 2 d_is_move) ∧ True ∧ PySem.W.keepIn K (.ref (He.ga K "is_move")) = true ∧ Binds K fd ["prime", "value"] [] ∧ True := by
  obtain ⟨fd, D⟩ := Z.says.def_ 22 (d := z_is_move)
  refine ⟨fd, fn_d (N := N_is_move) D S_is_move fun cdv A outer s H E hr hg => b_is_move Z cdv A outer s H E hr hg, trivial, D.kp, D.bindsN (fun _ _ _ _ _ _ us hl => match us, hl with
    | [a0, a1], _ => rfl), trivial⟩
/-! is_played -/
def N_is_played : List Str := ["prime", "value", "move"]
theorem S_is_played : FnScope N_is_played ["prime", "value"] (defScope (top 37)) := ⟨rfl, rfl, rfl, by decide +kernel, rfl, by decide +kernel, by decide +kernel⟩
def m_is_played : MS := (mRet (mTV (mAnd (mB (mCall (lenM 1 d_is_list) (mCons (mVar 1) mNil))) (mB (mTV (mAnd (mB (mBin dLe (mCall cLen (mCons (mVar 1) mNil)) (mC (.int 1500)))) (mB (mCall cAll (mCons (mLst (mLc (srcS (mVar 1)) [2] (tgN 2) mYes (mCall (lenM 2 d_is_move) (mCons (mVar 0) (mCons (mVar 2) mNil))))) mNil)))))))))
def d_is_played : List D → Mo D := runD 3 m_is_played
theorem b_is_played {P : Program} {w : World} {K : Fr'} {mg : Str → Option Value} {base : Heap} (Z : Zx P w K mg base) (cdv : Value) (A : Around) (outer : List Env) (s : Shared) (H : Hp) (E : XK) (hr : Room 4 (A.deeper (envOfC "is_played" (defScope (top 37)) s.heap.objs.size (He.ga K "is_played") cdv))) (hg : false = true → A.guards = some []) :
    PSsD (csK K) (cx0 P w K mg base N_is_played "is_played" (defScope (top 37)) (He.ga K "is_played") cdv A outer s H E) (defBody (top 37)) m_is_played := by
  obtain ⟨fd_is_list, F_is_list, FO_is_list, hk_is_list, hb_is_list, _⟩ := w_is_list Z
  obtain ⟨fd_is_move, F_is_move, FO_is_move, hk_is_move, hb_is_move, _⟩ := w_is_move Z
  obtain ⟨t_MOST_MOVES, h_MOST_MOVES⟩ := Z.c_MOST_MOVES
  exact (ss_one (s_ret (p_and (p_call F_is_list (hr.mono (by decide)) (fun (z : false = true) => nomatch z) (Z.glo_is_list) hk_is_list hb_is_list (DL.pa_cons (p_var 1) DL.pa_nil)) (p_and (p_cmp op_leI (p_bltn ca_len Z.fr_len (DL.pa_cons (p_var 1) DL.pa_nil)) (p_gint rfl h_MOST_MOVES) rfl) (p_one (p_bltn (ca_all rfl) Z.fr_all (DL.pa_cons (POD.d (o_lc [("move", 2)] rfl S_is_played.nd (blkOk_by rfl) ((i_seq (p_var 1))).j (fun _ _ _ _ _ => (g_name 2 S_is_played.nd)) (fun _ _ _ _ _ => ts_nil) (fun _ _ _ _ _ => (p_call F_is_move (hr.mono (by decide)) (fun (z : false = true) => nomatch z) (Z.glo_is_move) hk_is_move hb_is_move (DL.pa_cons (p_var 0) (DL.pa_cons (p_var 2) DL.pa_nil)))))) DL.pa_nil)))))))
theorem w_is_played {P : Program} {w : World} {K : Fr'} {mg : Str → Option Value} {base : Heap} (Z : Zx P w K mg base) : ∃ fd, FnD false P w K mg base 5 (He.ga K "is_played") fd ["prime", "value"] (spD K (csK K) 2 d_is_played) ∧ True ∧ PySem.W.keepIn K (.ref (He.ga K "is_played")) = true ∧ Binds K fd ["prime", "value"] [] ∧ True := by
  obtain ⟨fd, D⟩ := Z.says.def_ 23 (d := z_is_played)
  refine ⟨fd, fn_d (N := N_is_played) D S_is_played fun cdv A outer s H E hr hg => b_is_played Z cdv A outer s H E hr hg, trivial, D.kp, D.bindsN (fun _ _ _ _ _ _ us hl => match us, hl with
    | [a0, a1], _ => rfl), trivial⟩
/-! want_play -/
def N_want_play : List Str := ["prime", "play"]
theorem S_want_play : FnScope N_want_play ["prime", "play"] (defScope (top 38)) := ⟨rfl, rfl, rfl, by decide +kernel, rfl, by decide +kernel, by decide +kernel⟩
def m_want_play : MS := (mIfS (mNot (mB (mCall (lenM 2 d_is_played) (mCons (mVar 0) (mCons (mVar 1) mNil))))) mNever mNx)
def d_want_play : List D → Mo D := runD 2 m_want_play
theorem b_want_play {P : Program} {w : World} {K : Fr'} {mg : Str → Option Value} {base : Heap} (Z : Zx P w K mg base) (cdv : Value) (A : Around) (outer : List Env) (s : Shared) (H : Hp) (E : XK) (hr : Room 5 (A.deeper (envOfC "want_play" (defScope (top 38)) s.heap.objs.size (He.ga K "want_play") cdv))) (hg : false = true → A.guards = some []) :
    PSsD (csK K) (cx0 P w K mg base N_want_play "want_play" (defScope (top 38)) (He.ga K "want_play") cdv A outer s H E) (defBody (top 38)) m_want_play := by
  obtain ⟨fd_is_played, F_is_played, FO_is_played, hk_is_played, hb_is_played, _⟩ := w_is_played Z
  exact (ss_one (s_if (DL.pt_not (pt_v (p_call F_is_played (hr.mono (by decide)) (fun (z : false = true) => nomatch z) (Z.glo_is_played) hk_is_played hb_is_played (DL.pa_cons (p_var 0) (DL.pa_cons (p_var 1) DL.pa_nil))))) (ss_one s_never) ss_nil))
theorem w_want_play {P : Program} {w : World} {K : Fr'} {mg : Str → Option Value} {base : Heap} (Z : Zx P w K mg base) : ∃ fd, FnD false P w K mg base 6 (He.ga K "want_play") fd ["prime", "play"] (spD K (csK K) 2 d_want_play) ∧ True ∧ PySem.W.keepIn K (.ref (He.ga K "want_play")) = true ∧ Binds K fd ["prime", "play"] [] ∧ True := by
  obtain ⟨fd, D⟩ := Z.says.def_ 24 (d := z_want_play)
  refine ⟨fd, fn_d (N := N_want_play) D S_want_play fun cdv A outer s H E hr hg => b_want_play Z cdv A outer s H E hr hg, trivial, D.kp, D.bindsN (fun _ _ _ _ _ _ us hl => match us, hl with
    | [a0, a1], _ => rfl), trivial⟩
/-! moved_place -/
def N_moved_place : List Str := ["prime", "move", "place", "near", "far", "word", "values"]
theorem S_moved_place : FnScope N_moved_place ["prime", "move", "place"] (defScope (top 39)) := ⟨rfl, rfl, rfl, by decide +kernel, rfl, by decide +kernel, by decide +kernel⟩
def m_moved_place : MS := (mSeq (mAsg (tgTup 2 (tgCons (tgN 3) (tgCons (tgN 4) tgNil))) (mVar 2)) (mSeq (mAsg (tgTup 2 (tgCons (tgN 5) (tgCons (tgN 6) tgNil))) (mVar 1)) (mSeq (mIfS (mB (mBin (dEqF false) (mVar 5) (mC (.str "turn")))) (mRet (mTup (mCons (mVar 3) (mCons (mBin dModI (mCall cInt (mCons (mBin dMulI (mVar 4) (mVar 6)) mNil)) (mVar 0)) mNil)))) mNx) (mSeq (mIfS (mB (mBin (dEqF false) (mVar 5) (mC (.str "y")))) (mRet (mTup (mCons (mVar 3) (mCons (mBin dModI (mCall cInt (mCons (mBin dAddI (mVar 4) (mBin atD (mVar 6) (mVar 3))) mNil)) (mVar 0)) mNil)))) mNx) (mRet (mTup (mCons (mBin dModI (mCall cInt (mCons (mBin dAddI (mVar 3) (mBin atD (mVar 6) (mVar 4))) mNil)) (mVar 0)) (mCons (mVar 4) mNil))))))))
def d_moved_place : List D → Mo D := runD 7 m_moved_place
theorem b_moved_place {P : Program} {w : World} {K : Fr'} {mg : Str → Option Value} {base : Heap} (Z : Zx P w K mg base) (cdv : Value) (A : Around) (outer : List Env) (s : Shared) (H : Hp) (E : XK) (hr : Room 0 (A.deeper (envOfC "moved_place" (defScope (top 39)) s.heap.objs.size (He.ga K "moved_place") cdv))) (hg : false = true → A.guards = some []) :
    PSsD (csK K) (cx0 P w K mg base N_moved_place "moved_place" (defScope (top 39)) (He.ga K "moved_place") cdv A outer s H E) (defBody (top 39)) m_moved_place := by
  obtain ⟨t_COLUMNS, h_COLUMNS⟩ := Z.c_COLUMNS
  obtain ⟨t_TURN, h_TURN⟩ := Z.c_TURN
  exact (ss_cons (s_asg (p_var 2) (g_tup rfl (gs_cons (g_name 3 S_moved_place.nd) (gs_cons (g_name 4 S_moved_place.nd) gs_nil)))) (ss_cons (s_asg (p_var 1) (g_tup rfl (gs_cons (g_name 5 S_moved_place.nd) (gs_cons (g_name 6 S_moved_place.nd) gs_nil)))) (ss_cons (s_if (pt_cmp (op_eqF false) (p_var 5) (p_gstr rfl h_TURN) rfl) (ss_one (s_ret (p_tup (DL.pa_cons (p_var 3) (DL.pa_cons (p_bin op_modI (p_type ca_int Z.fr_int (DL.pa_cons (p_bin op_mulI (p_var 4) (p_var 6)) DL.pa_nil)) (p_var 0)) DL.pa_nil))))) ss_nil) (ss_cons (s_if (pt_cmp (op_eqF false) (p_var 5) (p_gstr rfl h_COLUMNS) rfl) (ss_one (s_ret (p_tup (DL.pa_cons (p_var 3) (DL.pa_cons (p_bin op_modI (p_type ca_int Z.fr_int (DL.pa_cons (p_bin op_addI (p_var 4) (p_ix (p_var 6) (p_var 3))) DL.pa_nil)) (p_var 0)) DL.pa_nil))))) ss_nil) (ss_one (s_ret (p_tup (DL.pa_cons (p_bin op_modI (p_type ca_int Z.fr_int (DL.pa_cons (p_bin op_addI (p_var 3) (p_ix (p_var 6) (p_var 4))) DL.pa_nil)) (p_var 0)) (DL.pa_cons (p_var 4) DL.pa_nil)))))))))
theorem w_moved_place {P : Program} {w : World} {K : Fr'} {mg : Str → Option Value} {base : Heap} (Z : Zx P w K mg base) : ∃ fd, FnD false P w K mg base 1 (He.ga K "moved_place") fd ["prime", "move", "place"] (spD K (csK K) 3 d_moved_place) ∧ True ∧ PySem.W.keepIn K (.ref (He.ga K "moved_place")) = true ∧ Binds K fd ["prime", "move", "place"] [] ∧ True := by
  obtain ⟨fd, D⟩ := Z.says.def_ 25 (d := z_moved_place)
  refine ⟨fd, fn_d (N := N_moved_place) D S_moved_place fun cdv A outer s H E hr hg => b_moved_place Z cdv A outer s H E hr hg, trivial, D.kp, D.bindsN (fun _ _ _ _ _ _ us hl => match us, hl with
    | [a0, a1, a2], _ => rfl), trivial⟩
/-! move_deal -/
def N_move_deal : List Str := ["prime", "move", "place"]
theorem S_move_deal : FnScope N_move_deal ["prime", "move"] (defScope (top 40)) := ⟨rfl, rfl, rfl, by decide +kernel, rfl, by decide +kernel, by decide +kernel⟩
def m_move_deal : MS := (mRetO (mLc (srcL (mLst (mCallO (lenO 1 o_places) (mCons (mVar 0) mNil)))) [2] (tgN 2) mYes (mCall (lenM 2 d_spot_of) (mCons (mVar 0) (mCons (mCall (lenM 3 d_moved_place) (mCons (mVar 0) (mCons (mVar 1) (mCons (mVar 2) mNil)))) mNil)))))
def d_move_deal : List D → Mo D := runD 3 m_move_deal
def o_move_deal : List D → Mo (List D) := runO 3 m_move_deal
theorem b_move_deal {P : Program} {w : World} {K : Fr'} {mg : Str → Option Value} {base : Heap} (Z : Zx P w K mg base) (cdv : Value) (A : Around) (outer : List Env) (s : Shared) (H : Hp) (E : XK) (hr : Room 1 (A.deeper (envOfC "move_deal" (defScope (top 40)) s.heap.objs.size (He.ga K "move_deal") cdv))) (hg : false = true → A.guards = some []) :
    PSsD (csK K) (cx0 P w K mg base N_move_deal "move_deal" (defScope (top 40)) (He.ga K "move_deal") cdv A outer s H E) (defBody (top 40)) m_move_deal := by
  obtain ⟨fd_moved_place, F_moved_place, FO_moved_place, hk_moved_place, hb_moved_place, _⟩ := w_moved_place Z
  obtain ⟨fd_places, F_places, FO_places, hk_places, hb_places, _⟩ := w_places Z
  obtain ⟨fd_spot_of, F_spot_of, FO_spot_of, hk_spot_of, hb_spot_of, _⟩ := w_spot_of Z
  exact (ss_one (s_retO (o_lc [("place", 2)] rfl S_move_deal.nd (blkOk_by rfl) ((i_list (POD.d (p_callO FO_places (hr.mono (by decide)) (fun (z : false = true) => nomatch z) (Z.glo_places) hk_places hb_places (DL.pa_cons (p_var 0) DL.pa_nil))))).j (fun _ _ _ _ _ => (g_name 2 S_move_deal.nd)) (fun _ _ _ _ _ => ts_nil) (fun _ _ _ _ _ => (p_call F_spot_of (hr.mono (by decide)) (fun (z : false = true) => nomatch z) (Z.glo_spot_of) hk_spot_of hb_spot_of (DL.pa_cons (p_var 0) (DL.pa_cons (p_call F_moved_place (hr.mono (by decide)) (fun (z : false = true) => nomatch z) (Z.glo_moved_place) hk_moved_place hb_moved_place (DL.pa_cons (p_var 0) (DL.pa_cons (p_var 1) (DL.pa_cons (p_var 2) DL.pa_nil)))) DL.pa_nil)))))))
theorem w_move_deal {P : Program} {w : World} {K : Fr'} {mg : Str → Option Value} {base : Heap} (Z : Zx P w K mg base) : ∃ fd, FnD false P w K mg base 2 (He.ga K "move_deal") fd ["prime", "move"] (spD K (csK K) 2 d_move_deal) ∧ FnD false P w K mg base 2 (He.ga K "move_deal") fd ["prime", "move"] (spO K (csK K) 2 o_move_deal) ∧ PySem.W.keepIn K (.ref (He.ga K "move_deal")) = true ∧ Binds K fd ["prime", "move"] [] ∧ True := by
  obtain ⟨fd, D⟩ := Z.says.def_ 26 (d := z_move_deal)
  refine ⟨fd, fn_d (N := N_move_deal) D S_move_deal fun cdv A outer s H E hr hg => b_move_deal Z cdv A outer s H E hr hg, fn_dO (N := N_move_deal) D S_move_deal fun cdv A outer s H E hr hg => b_move_deal Z cdv A outer s H E hr hg, D.kp, D.bindsN (fun _ _ _ _ _ _ us hl => match us, hl with
    | [a0, a1], _ => rfl), trivial⟩
/-! deal_by -/
def N_deal_by : List Str := ["prime", "play", "found", "move"]
theorem S_deal_by : FnScope N_deal_by ["prime", "play"] (defScope (top 41)) := ⟨rfl, rfl, rfl, by decide +kernel, rfl, by decide +kernel, by decide +kernel⟩
def m_deal_by : MS := (mSeq (mSet 2 (mLst (oRg1 (mBin dMulI (mVar 0) (mVar 0))))) (mSeq (mFor (srcS (mVar 1)) (tgN 3) (mSet 2 (mLst (mCallO (lenO 2 o_behind_table) (mCons (mLst (mCallO (lenO 2 o_move_deal) (mCons (mVar 0) (mCons (mVar 3) mNil)))) (mCons (mVar 2) mNil)))))) (mRet (mVar 2))))
def d_deal_by : List D → Mo D := runD 4 m_deal_by
theorem b_deal_by {P : Program} {w : World} {K : Fr'} {mg : Str → Option Value} {base : Heap} (Z : Zx P w K mg base) (cdv : Value) (A : Around) (outer : List Env) (s : Shared) (H : Hp) (E : XK) (hr : Room 2 (A.deeper (envOfC "deal_by" (defScope (top 41)) s.heap.objs.size (He.ga K "deal_by") cdv))) (hg : false = true → A.guards = some []) :
    PSsD (csK K) (cx0 P w K mg base N_deal_by "deal_by" (defScope (top 41)) (He.ga K "deal_by") cdv A outer s H E) (defBody (top 41)) m_deal_by := by
  obtain ⟨fd_behind_table, F_behind_table, FO_behind_table, hk_behind_table, hb_behind_table, _⟩ := w_behind_table Z
  obtain ⟨fd_move_deal, F_move_deal, FO_move_deal, hk_move_deal, hb_move_deal, _⟩ := w_move_deal Z
  exact (ss_cons (s_set 2 S_deal_by.nd (POD.d (o_listRg1 rfl Z.fr_list Z.fr_range (p_bin op_mulI (p_var 0) (p_var 0))))) (ss_cons (s_for PassesOwn.never rfl (i_seq (p_var 1)) (g_name 3 S_deal_by.nd) (ss_one (s_set 2 S_deal_by.nd (POD.d (p_callO FO_behind_table (hr.mono (by decide)) (fun (z : false = true) => nomatch z) (Z.glo_behind_table) hk_behind_table hb_behind_table (DL.pa_cons (POD.d (p_callO FO_move_deal (hr.mono (by decide)) (fun (z : false = true) => nomatch z) (Z.glo_move_deal) hk_move_deal hb_move_deal (DL.pa_cons (p_var 0) (DL.pa_cons (p_var 3) DL.pa_nil)))) (DL.pa_cons (p_var 2) DL.pa_nil))))))) (ss_one (s_ret (p_var 2)))))
theorem w_deal_by {P : Program} {w : World} {K : Fr'} {mg : Str → Option Value} {base : Heap} (Z : Zx P w K mg base) : ∃ fd, FnD false P w K mg base 3 (He.ga K "deal_by") fd ["prime", "play"] (spD K (csK K) 2 d_deal_by) ∧ True ∧ PySem.W.keepIn K (.ref (He.ga K "deal_by")) = true ∧ Binds K fd ["prime", "play"] [] ∧ True := by
  obtain ⟨fd, D⟩ := Z.says.def_ 27 (d := z_deal_by)
  refine ⟨fd, fn_d (N := N_deal_by) D S_deal_by fun cdv A outer s H E hr hg => b_deal_by Z cdv A outer s H E hr hg, trivial, D.kp, D.bindsN (fun _ _ _ _ _ _ us hl => match us, hl with
    | [a0, a1], _ => rfl), trivial⟩
/-! contrary_move -/
def N_contrary_move : List Str := ["prime", "move", "word", "values", "value"]
theorem S_contrary_move : FnScope N_contrary_move ["prime", "move"] (defScope (top 42)) := ⟨rfl, rfl, rfl, by decide +kernel, rfl, by decide +kernel, by decide +kernel⟩
def m_contrary_move : MS := (mSeq (mAsg (tgTup 2 (tgCons (tgN 2) (tgCons (tgN 3) tgNil))) (mVar 1)) (mSeq (mIfS (mB (mBin (dEqF false) (mVar 2) (mC (.str "turn")))) (mRet (mTup (mCons (mC (.str "turn")) (mCons (mCall (lenM 2 d_undone_rest) (mCons (mVar 3) (mCons (mVar 0) mNil))) mNil)))) mNx) (mRet (mTup (mCons (mVar 2) (mCons (mLst (mLc (srcS (mVar 3)) [4] (tgN 4) mYes (mBin dModI (mCall cInt (mCons (mBin dSubI (mC (.int 0)) (mVar 4)) mNil)) (mVar 0)))) mNil))))))
def d_contrary_move : List D → Mo D := runD 5 m_contrary_move
theorem b_contrary_move {P : Program} {w : World} {K : Fr'} {mg : Str → Option Value} {base : Heap} (Z : Zx P w K mg base) (cdv : Value) (A : Around) (outer : List Env) (s : Shared) (H : Hp) (E : XK) (hr : Room 1 (A.deeper (envOfC "contrary_move" (defScope (top 42)) s.heap.objs.size (He.ga K "contrary_move") cdv))) (hg : false = true → A.guards = some []) :
    PSsD (csK K) (cx0 P w K mg base N_contrary_move "contrary_move" (defScope (top 42)) (He.ga K "contrary_move") cdv A outer s H E) (defBody (top 42)) m_contrary_move := by
  obtain ⟨fd_undone_rest, F_undone_rest, FO_undone_rest, hk_undone_rest, hb_undone_rest, _⟩ := w_undone_rest Z
  obtain ⟨t_TURN, h_TURN⟩ := Z.c_TURN
  exact (ss_cons (s_asg (p_var 1) (g_tup rfl (gs_cons (g_name 2 S_contrary_move.nd) (gs_cons (g_name 3 S_contrary_move.nd) gs_nil)))) (ss_cons (s_if (pt_cmp (op_eqF false) (p_var 2) (p_gstr rfl h_TURN) rfl) (ss_one (s_ret (p_tup (DL.pa_cons (p_gstr rfl h_TURN) (DL.pa_cons (p_call F_undone_rest (hr.mono (by decide)) (fun (z : false = true) => nomatch z) (Z.glo_undone_rest) hk_undone_rest hb_undone_rest (DL.pa_cons (p_var 3) (DL.pa_cons (p_var 0) DL.pa_nil))) DL.pa_nil))))) ss_nil) (ss_one (s_ret (p_tup (DL.pa_cons (p_var 2) (DL.pa_cons (POD.d (o_lc [("value", 4)] rfl S_contrary_move.nd (blkOk_by rfl) ((i_seq (p_var 3))).j (fun _ _ _ _ _ => (g_name 4 S_contrary_move.nd)) (fun _ _ _ _ _ => ts_nil) (fun _ _ _ _ _ => (p_bin op_modI (p_type ca_int Z.fr_int (DL.pa_cons (p_bin op_subI p_int (p_var 4)) DL.pa_nil)) (p_var 0))))) DL.pa_nil)))))))
theorem w_contrary_move {P : Program} {w : World} {K : Fr'} {mg : Str → Option Value} {base : Heap} (Z : Zx P w K mg base) : ∃ fd, FnD false P w K mg base 2 (He.ga K "contrary_move") fd ["prime", "move"] (spD K (csK K) 2 d_contrary_move) ∧ True ∧ PySem.W.keepIn K (.ref (He.ga K "contrary_move")) = true ∧ Binds K fd ["prime", "move"] [] ∧ True := by
  obtain ⟨fd, D⟩ := Z.says.def_ 28 (d := z_contrary_move)
  refine ⟨fd, fn_d (N := N_contrary_move) D S_contrary_move fun cdv A outer s H E hr hg => b_contrary_move Z cdv A outer s H E hr hg, trivial, D.kp, D.bindsN (fun _ _ _ _ _ _ us hl => match us, hl with
    | [a0, a1], _ => rfl), trivial⟩
/-! contrary_of -/
def N_contrary_of : List Str := ["prime", "play", "move"]
theorem S_contrary_of : FnScope N_contrary_of ["prime", "play"] (defScope (top 43)) := ⟨rfl, rfl, rfl, by decide +kernel, rfl, by decide +kernel, by decide +kernel⟩
def m_contrary_of : MS := (mRetO (mLc (srcL (mLst (oRev (mVar 1)))) [2] (tgN 2) mYes (mCall (lenM 2 d_contrary_move) (mCons (mVar 0) (mCons (mVar 2) mNil)))))
def d_contrary_of : List D → Mo D := runD 3 m_contrary_of
def o_contrary_of : List D → Mo (List D) := runO 3 m_contrary_of
theorem b_contrary_of {P : Program} {w : World} {K : Fr'} {mg : Str → Option Value} {base : Heap} (Z : Zx P w K mg base) (cdv : Value) (A : Around) (outer : List Env) (s : Shared) (H : Hp) (E : XK) (hr : Room 2 (A.deeper (envOfC "contrary_of" (defScope (top 43)) s.heap.objs.size (He.ga K "contrary_of") cdv))) (hg : false = true → A.guards = some []) :
    PSsD (csK K) (cx0 P w K mg base N_contrary_of "contrary_of" (defScope (top 43)) (He.ga K "contrary_of") cdv A outer s H E) (defBody (top 43)) m_contrary_of := by
  obtain ⟨fd_contrary_move, F_contrary_move, FO_contrary_move, hk_contrary_move, hb_contrary_move, _⟩ := w_contrary_move Z
  exact (ss_one (s_retO (o_lc [("move", 2)] rfl S_contrary_of.nd (blkOk_by rfl) ((i_list (POD.d (oRevB ((p_var 1)).bo)))).j (fun _ _ _ _ _ => (g_name 2 S_contrary_of.nd)) (fun _ _ _ _ _ => ts_nil) (fun _ _ _ _ _ => (p_call F_contrary_move (hr.mono (by decide)) (fun (z : false = true) => nomatch z) (Z.glo_contrary_move) hk_contrary_move hb_contrary_move (DL.pa_cons (p_var 0) (DL.pa_cons (p_var 2) DL.pa_nil)))))))
theorem w_contrary_of {P : Program} {w : World} {K : Fr'} {mg : Str → Option Value} {base : Heap} (Z : Zx P w K mg base) : ∃ fd, FnD false P w K mg base 3 (He.ga K "contrary_of") fd ["prime", "play"] (spD K (csK K) 2 d_contrary_of) ∧ FnD false P w K mg base 3 (He.ga K "contrary_of") fd ["prime", "play"] (spO K (csK K) 2 o_contrary_of) ∧ PySem.W.keepIn K (.ref (He.ga K "contrary_of")) = true ∧ Binds K fd ["prime", "play"] [] ∧ True := by
  obtain ⟨fd, D⟩ := Z.says.def_ 29 (d := z_contrary_of)
  refine ⟨fd, fn_d (N := N_contrary_of) D S_contrary_of fun cdv A outer s H E hr hg => b_contrary_of Z cdv A outer s H E hr hg, fn_dO (N := N_contrary_of) D S_contrary_of fun cdv A outer s H E hr hg => b_contrary_of Z cdv A outer s H E hr hg, D.kp, D.bindsN (fun _ _ _ _ _ _ us hl => match us, hl with
    | [a0, a1], _ => rfl), trivial⟩
/-! is_play -/
def N_is_play : List Str := ["prime", "value"]
theorem S_is_play : FnScope N_is_play ["prime", "value"] (defScope (top 44)) := ⟨rfl, rfl, rfl, by decide +kernel, rfl, by decide +kernel, by decide +kernel⟩
def m_is_play : MS := (mSeq (mDrop (mCall (lenM 1 d_want_prime) (mCons (mVar 0) mNil))) (mRet (mCall (lenM 2 d_is_played) (mCons (mVar 0) (mCons (mVar 1) mNil)))))
def d_is_play : List D → Mo D := runD 2 m_is_play
theorem b_is_play {P : Program} {w : World} {K : Fr'} {mg : Str → Option Value} {base : Heap} (Z : Zx P w K mg base) (cdv : Value) (A : Around) (outer : List Env) (s : Shared) (H : Hp) (E : XK) (hr : Room 5 (A.deeper (envOfC "is_play" (defScope (top 44)) s.heap.objs.size (He.ga K "is_play") cdv))) (hg : false = true → A.guards = some []) :
    PSsD (csK K) (cx0 P w K mg base N_is_play "is_play" (defScope (top 44)) (He.ga K "is_play") cdv A outer s H E) (defBody (top 44)) m_is_play := by
  obtain ⟨fd_is_played, F_is_played, FO_is_played, hk_is_played, hb_is_played, _⟩ := w_is_played Z
  obtain ⟨fd_want_prime, F_want_prime, FO_want_prime, hk_want_prime, hb_want_prime, _⟩ := w_want_prime Z
  exact (ss_cons (s_expr (p_call F_want_prime (hr.mono (by decide)) (fun (z : false = true) => nomatch z) (Z.glo_want_prime) hk_want_prime hb_want_prime (DL.pa_cons (p_var 0) DL.pa_nil))) (ss_one (s_ret (p_call F_is_played (hr.mono (by decide)) (fun (z : false = true) => nomatch z) (Z.glo_is_played) hk_is_played hb_is_played (DL.pa_cons (p_var 0) (DL.pa_cons (p_var 1) DL.pa_nil))))))
theorem w_is_play {P : Program} {w : World} {K : Fr'} {mg : Str → Option Value} {base : Heap} (Z : Zx P w K mg base) : ∃ fd, FnD false P w K mg base 6 (He.ga K "is_play") fd ["prime", "value"] (spD K (csK K) 2 d_is_play) ∧ True ∧ PySem.W.keepIn K (.ref (He.ga K "is_play")) = true ∧ Binds K fd ["prime", "value"] [] ∧ KwB fd ["prime", "value"] ["value", "prime"] [1, 0] ∧ True := by
  obtain ⟨fd, D⟩ := Z.says.def_ 30 (d := z_is_play)
  refine ⟨fd, fn_d (N := N_is_play) D S_is_play fun cdv A outer s H E hr hg => b_is_play Z cdv A outer s H E hr hg, trivial, D.kp, D.bindsN (fun _ _ _ _ _ _ us hl => match us, hl with
    | [a0, a1], _ => rfl), FunD.kwB D ["prime", "value"] ["value", "prime"] [1, 0] (fun _ _ _ _ _ _ us hl => match us, hl with
    | [a0, a1], _ => rfl), trivial⟩
/-! play_deal -/
def N_play_deal : List Str := ["prime", "play"]
theorem S_play_deal : FnScope N_play_deal ["prime", "play"] (defScope (top 45)) := ⟨rfl, rfl, rfl, by decide +kernel, rfl, by decide +kernel, by decide +kernel⟩
def m_play_deal : MS := (mSeq (mDrop (mCall (lenM 1 d_want_prime) (mCons (mVar 0) mNil))) (mSeq (mDrop (mCall (lenM 2 d_want_play) (mCons (mVar 0) (mCons (mVar 1) mNil)))) (mRet (mCall (lenM 2 d_deal_by) (mCons (mVar 0) (mCons (mVar 1) mNil))))))
def d_play_deal : List D → Mo D := runD 2 m_play_deal
theorem b_play_deal {P : Program} {w : World} {K : Fr'} {mg : Str → Option Value} {base : Heap} (Z : Zx P w K mg base) (cdv : Value) (A : Around) (outer : List Env) (s : Shared) (H : Hp) (E : XK) (hr : Room 6 (A.deeper (envOfC "play_deal" (defScope (top 45)) s.heap.objs.size (He.ga K "play_deal") cdv))) (hg : false = true → A.guards = some []) :
    PSsD (csK K) (cx0 P w K mg base N_play_deal "play_deal" (defScope (top 45)) (He.ga K "play_deal") cdv A outer s H E) (defBody (top 45)) m_play_deal := by
  obtain ⟨fd_deal_by, F_deal_by, FO_deal_by, hk_deal_by, hb_deal_by, _⟩ := w_deal_by Z
  obtain ⟨fd_want_play, F_want_play, FO_want_play, hk_want_play, hb_want_play, _⟩ := w_want_play Z
  obtain ⟨fd_want_prime, F_want_prime, FO_want_prime, hk_want_prime, hb_want_prime, _⟩ := w_want_prime Z
  exact (ss_cons (s_expr (p_call F_want_prime (hr.mono (by decide)) (fun (z : false = true) => nomatch z) (Z.glo_want_prime) hk_want_prime hb_want_prime (DL.pa_cons (p_var 0) DL.pa_nil))) (ss_cons (s_expr (p_call F_want_play (hr.mono (by decide)) (fun (z : false = true) => nomatch z) (Z.glo_want_play) hk_want_play hb_want_play (DL.pa_cons (p_var 0) (DL.pa_cons (p_var 1) DL.pa_nil)))) (ss_one (s_ret (p_call F_deal_by (hr.mono (by decide)) (fun (z : false = true) => nomatch z) (Z.glo_deal_by) hk_deal_by hb_deal_by (DL.pa_cons (p_var 0) (DL.pa_cons (p_var 1) DL.pa_nil)))))))
theorem w_play_deal {P : Program} {w : World} {K : Fr'} {mg : Str → Option Value} {base : Heap} (Z : Zx P w K mg base) : ∃ fd, FnD false P w K mg base 7 (He.ga K "play_deal") fd ["prime", "play"] (spD K (csK K) 2 d_play_deal) ∧ True ∧ PySem.W.keepIn K (.ref (He.ga K "play_deal")) = true ∧ Binds K fd ["prime", "play"] [] ∧ KwB fd ["prime", "play"] ["play", "prime"] [1, 0] ∧ True := by
  obtain ⟨fd, D⟩ := Z.says.def_ 31 (d := z_play_deal)
  refine ⟨fd, fn_d (N := N_play_deal) D S_play_deal fun cdv A outer s H E hr hg => b_play_deal Z cdv A outer s H E hr hg, trivial, D.kp, D.bindsN (fun _ _ _ _ _ _ us hl => match us, hl with
    | [a0, a1], _ => rfl), FunD.kwB D ["prime", "play"] ["play", "prime"] [1, 0] (fun _ _ _ _ _ _ us hl => match us, hl with
    | [a0, a1], _ => rfl), trivial⟩
/-! contrary_play -/
def N_contrary_play : List Str := ["prime", "play"]
theorem S_contrary_play : FnScope N_contrary_play ["prime", "play"] (defScope (top 46)) := ⟨rfl, rfl, rfl, by decide +kernel, rfl, by decide +kernel, by decide +kernel⟩
def m_contrary_play : MS := (mSeq (mDrop (mCall (lenM 1 d_want_prime) (mCons (mVar 0) mNil))) (mSeq (mDrop (mCall (lenM 2 d_want_play) (mCons (mVar 0) (mCons (mVar 1) mNil)))) (mRetO (mCallO (lenO 2 o_contrary_of) (mCons (mVar 0) (mCons (mLst (mCallO oListC (mCons (mVar 1) mNil))) mNil))))))
def d_contrary_play : List D → Mo D := runD 2 m_contrary_play
def o_contrary_play : List D → Mo (List D) := runO 2 m_contrary_play
theorem b_contrary_play {P : Program} {w : World} {K : Fr'} {mg : Str → Option Value} {base : Heap} (Z : Zx P w K mg base) (cdv : Value) (A : Around) (outer : List Env) (s : Shared) (H : Hp) (E : XK) (hr : Room 6 (A.deeper (envOfC "contrary_play" (defScope (top 46)) s.heap.objs.size (He.ga K "contrary_play") cdv))) (hg : false = true → A.guards = some []) :
    PSsD (csK K) (cx0 P w K mg base N_contrary_play "contrary_play" (defScope (top 46)) (He.ga K "contrary_play") cdv A outer s H E) (defBody (top 46)) m_contrary_play := by
  obtain ⟨fd_contrary_of, F_contrary_of, FO_contrary_of, hk_contrary_of, hb_contrary_of, _⟩ := w_contrary_of Z
  obtain ⟨fd_want_play, F_want_play, FO_want_play, hk_want_play, hb_want_play, _⟩ := w_want_play Z
  obtain ⟨fd_want_prime, F_want_prime, FO_want_prime, hk_want_prime, hb_want_prime, _⟩ := w_want_prime Z
  exact (ss_cons (s_expr (p_call F_want_prime (hr.mono (by decide)) (fun (z : false = true) => nomatch z) (Z.glo_want_prime) hk_want_prime hb_want_prime (DL.pa_cons (p_var 0) DL.pa_nil))) (ss_cons (s_expr (p_call F_want_play (hr.mono (by decide)) (fun (z : false = true) => nomatch z) (Z.glo_want_play) hk_want_play hb_want_play (DL.pa_cons (p_var 0) (DL.pa_cons (p_var 1) DL.pa_nil)))) (ss_one (s_retO (p_callO FO_contrary_of (hr.mono (by decide)) (fun (z : false = true) => nomatch z) (Z.glo_contrary_of) hk_contrary_of hb_contrary_of (DL.pa_cons (p_var 0) (DL.pa_cons (POD.d (o_listOf Z.fr_list (DL.pa_cons (p_var 1) DL.pa_nil))) DL.pa_nil)))))))
theorem w_contrary_play {P : Program} {w : World} {K : Fr'} {mg : Str → Option Value} {base : Heap} (Z : Zx P w K mg base) : ∃ fd, FnD false P w K mg base 7 (He.ga K "contrary_play") fd ["prime", "play"] (spD K (csK K) 2 d_contrary_play) ∧ FnD false P w K mg base 7 (He.ga K "contrary_play") fd ["prime", "play"] (spO K (csK K) 2 o_contrary_play) ∧ PySem.W.keepIn K (.ref (He.ga K "contrary_play")) = true ∧ Binds K fd ["prime", "play"] [] ∧ KwB fd ["prime", "play"] ["play", "prime"] [1, 0] ∧ True := by
  obtain ⟨fd, D⟩ := Z.says.def_ 32 (d := z_contrary_play)
  refine ⟨fd, fn_d (N := N_contrary_play) D S_contrary_play fun cdv A outer s H E hr hg => b_contrary_play Z cdv A outer s H E hr hg, fn_dO (N := N_contrary_play) D S_contrary_play fun cdv A outer s H E hr hg => b_contrary_play Z cdv A outer s H E hr hg, D.kp, D.bindsN (fun _ _ _ _ _ _ us hl => match us, hl with
    | [a0, a1], _ => rfl), FunD.kwB D ["prime", "play"] ["play", "prime"] [1, 0] (fun _ _ _ _ _ _ us hl => match us, hl with
    | [a0, a1], _ => rfl), trivial⟩
/-! is_play_for -/
def N_is_play_for : List Str := ["prime", "deal", "value", "own"]
theorem S_is_play_for : FnScope N_is_play_for ["prime", "deal", "value"] (defScope (top 47)) := ⟨rfl, rfl, rfl, by decide +kernel, rfl, by decide +kernel, by decide +kernel⟩
def m_is_play_for : MS := (mSeq (mDrop (mCall (lenM 1 d_want_prime) (mCons (mVar 0) mNil))) (mSeq (mSet 3 (mLst (mCallO (lenO 2 o_want_deal) (mCons (mVar 0) (mCons (mVar 1) mNil))))) (mRet (mTV (mAnd (mB (mCall (lenM 2 d_is_played) (mCons (mVar 0) (mCons (mVar 2) mNil)))) (mB (mBin (dEqU false) (mCall (lenM 2 d_deal_by) (mCons (mVar 0) (mCons (mVar 2) mNil))) (mVar 3))))))))
def d_is_play_for : List D → Mo D := runD 4 m_is_play_for
theorem b_is_play_for {P : Program} {w : World} {K : Fr'} {mg : Str → Option Value} {base : Heap} (Z : Zx P w K mg base) (cdv : Value) (A : Around) (outer : List Env) (s : Shared) (H : Hp) (E : XK) (hr : Room 8 (A.deeper (envOfC "is_play_for" (defScope (top 47)) s.heap.objs.size (He.ga K "is_play_for") cdv))) (hg : false = true → A.guards = some []) :
    PSsD (csK K) (cx0 P w K mg base N_is_play_for "is_play_for" (defScope (top 47)) (He.ga K "is_play_for") cdv A outer s H E) (defBody (top 47)) m_is_play_for := by
  obtain ⟨fd_deal_by, F_deal_by, FO_deal_by, hk_deal_by, hb_deal_by, _⟩ := w_deal_by Z
  obtain ⟨fd_is_played, F_is_played, FO_is_played, hk_is_played, hb_is_played, _⟩ := w_is_played Z
  obtain ⟨fd_want_deal, F_want_deal, FO_want_deal, hk_want_deal, hb_want_deal, _⟩ := w_want_deal Z
  obtain ⟨fd_want_prime, F_want_prime, FO_want_prime, hk_want_prime, hb_want_prime, _⟩ := w_want_prime Z
  exact (ss_cons (s_expr (p_call F_want_prime (hr.mono (by decide)) (fun (z : false = true) => nomatch z) (Z.glo_want_prime) hk_want_prime hb_want_prime (DL.pa_cons (p_var 0) DL.pa_nil))) (ss_cons (s_set 3 S_is_play_for.nd (POD.d (p_callO FO_want_deal (hr.mono (by decide)) (fun (z : false = true) => nomatch z) (Z.glo_want_deal) hk_want_deal hb_want_deal (DL.pa_cons (p_var 0) (DL.pa_cons (p_var 1) DL.pa_nil))))) (ss_one (s_ret (p_and (p_call F_is_played (hr.mono (by decide)) (fun (z : false = true) => nomatch z) (Z.glo_is_played) hk_is_played hb_is_played (DL.pa_cons (p_var 0) (DL.pa_cons (p_var 2) DL.pa_nil))) (p_one (p_cmp (op_eqU Z (hr.mono (by decide)) false) (p_call F_deal_by (hr.mono (by decide)) (fun (z : false = true) => nomatch z) (Z.glo_deal_by) hk_deal_by hb_deal_by (DL.pa_cons (p_var 0) (DL.pa_cons (p_var 2) DL.pa_nil))) (p_var 3) rfl)))))))
theorem w_is_play_for {P : Program} {w : World} {K : Fr'} {mg : Str → Option Value} {base : Heap} (Z : Zx P w K mg base) : ∃ fd, FnD false P w K mg base 9 (He.ga K "is_play_for") fd ["prime", "deal", "value"] (spD K (csK K) 3 d_is_play_for) ∧ True ∧ PySem.W.keepIn K (.ref (He.ga K "is_play_for")) = true ∧ Binds K fd ["prime", "deal", "value"] [] ∧ KwB fd ["prime", "deal", "value"] ["value", "deal", "prime"] [2, 1, 0] ∧ True := by
  obtain ⟨fd, D⟩ := Z.says.def_ 33 (d := z_is_play_for)
  refine ⟨fd, fn_d (N := N_is_play_for) D S_is_play_for fun cdv A outer s H E hr hg => b_is_play_for Z cdv A outer s H E hr hg, trivial, D.kp, D.bindsN (fun _ _ _ _ _ _ us hl => match us, hl with
    | [a0, a1, a2], _ => rfl), FunD.kwB D ["prime", "deal", "value"] ["value", "deal", "prime"] [2, 1, 0] (fun _ _ _ _ _ _ us hl => match us, hl with
    | [a0, a1, a2], _ => rfl), trivial⟩
/-! _law_draw -/
def N__law_draw : List Str := ["pot", "many", "digit"]
theorem S__law_draw : FnScope N__law_draw ["pot", "many"] (defScope (top 50)) := ⟨rfl, rfl, rfl, by decide +kernel, rfl, by decide +kernel, by decide +kernel⟩
def m__law_draw : MS := (mSeq (mIfS (mB (mBin dGt (mPot 0 false) (mC (.int 0)))) (mSeq (mPotDiv 0 2 (mCall cDivmod (mCons (mPot 0 false) (mCons (mVar 1) mNil)))) (mRet (mVar 2))) mNx) (mSeq (mSetPot 0 true (mBin dModI (mCall cInt (mCons (mBin dAddI (mBin dMulI (mPot 0 true) (mC (.int 40692))) (mC (.int 1987))) mNil)) (mC (.int 2147483587)))) (mRet (mBin dModI (mCall cInt (mCons (mBin dDivI (mBin dModI (mCall cInt (mCons (mBin dMulI (mPot 0 true) (mPot 0 true)) mNil)) (mC (.int 2147483629))) (mC (.int 19))) mNil)) (mVar 1)))))
def d__law_draw : List D → Mo D := runD 3 m__law_draw
theorem b__law_draw {P : Program} {w : World} {K : Fr'} {mg : Str → Option Value} {base : Heap} (Z : Zx P w K mg base) (cdv : Value) (A : Around) (outer : List Env) (s : Shared) (H : Hp) (E : XK) (hr : Room 0 (A.deeper (envOfC "_law_draw" (defScope (top 50)) s.heap.objs.size (He.ga K "_law_draw") cdv))) (hg : false = true → A.guards = some []) :
    PSsD (csK K) (cx0 P w K mg base N__law_draw "_law_draw" (defScope (top 50)) (He.ga K "_law_draw") cdv A outer s H E) (defBody (top 50)) m__law_draw := by
  exact (ss_cons (s_if (pt_cmp op_gtI (p_potIx 0 false) p_int rfl) (ss_cons (s_potDiv 0 2 rfl S__law_draw.nd (p_bltn ca_divmod Z.fr_divmod (DL.pa_cons (p_potIx 0 false) (DL.pa_cons (p_var 1) DL.pa_nil)))) (ss_one (s_ret (p_var 2)))) ss_nil) (ss_cons (s_setPot 0 true (p_bin op_modI (p_type ca_int Z.fr_int (DL.pa_cons (p_bin op_addI (p_bin op_mulI (p_potIx 0 true) p_int) p_int) DL.pa_nil)) p_int)) (ss_one (s_ret (p_bin op_modI (p_type ca_int Z.fr_int (DL.pa_cons (p_bin op_divI (p_bin op_modI (p_type ca_int Z.fr_int (DL.pa_cons (p_bin op_mulI (p_potIx 0 true) (p_potIx 0 true)) DL.pa_nil)) p_int) p_int) DL.pa_nil)) (p_var 1))))))
theorem w__law_draw {P : Program} {w : World} {K : Fr'} {mg : Str → Option Value} {base : Heap} (Z : Zx P w K mg base) : ∃ fd, FnD false P w K mg base 1 (He.ga K "_law_draw") fd ["pot", "many"] (spD K (csK K) 2 d__law_draw) ∧ True ∧ PySem.W.keepIn K (.ref (He.ga K "_law_draw")) = true ∧ Binds K fd ["pot", "many"] [] ∧ True := by
  obtain ⟨fd, D⟩ := Z.says.def_ 35 (d := z__law_draw)
  refine ⟨fd, fn_d (N := N__law_draw) D S__law_draw fun cdv A outer s H E hr hg => b__law_draw Z cdv A outer s H E hr hg, trivial, D.kp, D.bindsN (fun _ _ _ _ _ _ us hl => match us, hl with
    | [a0, a1], _ => rfl), trivial⟩
/-! _law_pick -/
def N__law_pick : List Str := ["pot", "some"]
theorem S__law_pick : FnScope N__law_pick ["pot", "some"] (defScope (top 51)) := ⟨rfl, rfl, rfl, by decide +kernel, rfl, by decide +kernel, by decide +kernel⟩
def m__law_pick : MS := (mRet (mBin atD (mVar 1) (mCall (lenM 2 d__law_draw) (mCons (mVar 0) (mCons (mCall cLen (mCons (mVar 1) mNil)) mNil)))))
def d__law_pick : List D → Mo D := runD 2 m__law_pick
theorem b__law_pick {P : Program} {w : World} {K : Fr'} {mg : Str → Option Value} {base : Heap} (Z : Zx P w K mg base) (cdv : Value) (A : Around) (outer : List Env) (s : Shared) (H : Hp) (E : XK) (hr : Room 1 (A.deeper (envOfC "_law_pick" (defScope (top 51)) s.heap.objs.size (He.ga K "_law_pick") cdv))) (hg : false = true → A.guards = some []) :
    PSsD (csK K) (cx0 P w K mg base N__law_pick "_law_pick" (defScope (top 51)) (He.ga K "_law_pick") cdv A outer s H E) (defBody (top 51)) m__law_pick := by
  obtain ⟨fd__law_draw, F__law_draw, FO__law_draw, hk__law_draw, hb__law_draw, _⟩ := w__law_draw Z
  exact (ss_one (s_ret (p_ix (p_var 1) (p_call F__law_draw (hr.mono (by decide)) (fun (z : false = true) => nomatch z) (Z.glo__law_draw) hk__law_draw hb__law_draw (DL.pa_cons (p_var 0) (DL.pa_cons (p_bltn ca_len Z.fr_len (DL.pa_cons (p_var 1) DL.pa_nil)) DL.pa_nil))))))
theorem w__law_pick {P : Program} {w : World} {K : Fr'} {mg : Str → Option Value} {base : Heap} (Z : Zx P w K mg base) : ∃ fd, FnD false P w K mg base 2 (He.ga K "_law_pick") fd ["pot", "some"] (spD K (csK K) 2 d__law_pick) ∧ True ∧ PySem.W.keepIn K (.ref (He.ga K "_law_pick")) = true ∧ Binds K fd ["pot", "some"] [] ∧ True := by
  obtain ⟨fd, D⟩ := Z.says.def_ 36 (d := z__law_pick)
  refine ⟨fd, fn_d (N := N__law_pick) D S__law_pick fun cdv A outer s H E hr hg => b__law_pick Z cdv A outer s H E hr hg, trivial, D.kp, D.bindsN (fun _ _ _ _ _ _ us hl => match us, hl with
    | [a0, a1], _ => rfl), trivial⟩
/-! _law_mixed -/
def N__law_mixed : List Str := ["pot", "some", "left", "found", "turn"]
theorem S__law_mixed : FnScope N__law_mixed ["pot", "some"] (defScope (top 52)) := ⟨rfl, rfl, rfl, by decide +kernel, rfl, by decide +kernel, by decide +kernel⟩
def m__law_mixed : MS := (mSeq (mParOO 2 3 (mCallO oListC (mCons (mVar 1) mNil)) (mNew mNil)) (mSeq (mFor (srcR1 (mCons (mCall cLen (mCons (mVar 1) mNil)) mNil)) (tgN 4) (mAppPop 3 2 (mCall (lenM 2 d__law_draw) (mCons (mVar 0) (mCons (mLen (mVarB 2)) mNil))))) (mRetX 3)))
def d__law_mixed : List D → Mo D := runD 5 m__law_mixed
def o__law_mixed : List D → Mo (List D) := runO 5 m__law_mixed
theorem b__law_mixed {P : Program} {w : World} {K : Fr'} {mg : Str → Option Value} {base : Heap} (Z : Zx P w K mg base) (cdv : Value) (A : Around) (outer : List Env) (s : Shared) (H : Hp) (E : XK) (hr : Room 1 (A.deeper (envOfC "_law_mixed" (defScope (top 52)) s.heap.objs.size (He.ga K "_law_mixed") cdv))) (hg : false = true → A.guards = some []) :
    PSsD (csK K) (cx0 P w K mg base N__law_mixed "_law_mixed" (defScope (top 52)) (He.ga K "_law_mixed") cdv A outer s H E) (defBody (top 52)) m__law_mixed := by
  obtain ⟨fd__law_draw, F__law_draw, FO__law_draw, hk__law_draw, hb__law_draw, _⟩ := w__law_draw Z
  exact (ss_cons (s_parOO 2 3 rfl S__law_mixed.nd (o_listOf Z.fr_list (DL.pa_cons (p_var 1) DL.pa_nil)) (o_lst DL.pa_nil) rfl) (ss_cons (s_for PassesOwn.never rfl (i_range1 Z.fr_range (DL.pa_cons (p_bltn ca_len Z.fr_len (DL.pa_cons (p_var 1) DL.pa_nil)) DL.pa_nil)) (g_name 4 S__law_mixed.nd) (ss_one (s_appPop 3 2 (p_call F__law_draw (hr.mono (by decide)) (fun (z : false = true) => nomatch z) (Z.glo__law_draw) hk__law_draw hb__law_draw (DL.pa_cons (p_var 0) (DL.pa_cons (p_lenB Z.fr_len (b_var 2)) DL.pa_nil)))))) (ss_one (s_retX 3))))
theorem w__law_mixed {P : Program} {w : World} {K : Fr'} {mg : Str → Option Value} {base : Heap} (Z : Zx P w K mg base) : ∃ fd, FnD false P w K mg base 2 (He.ga K "_law_mixed") fd ["pot", "some"] (spD K (csK K) 2 d__law_mixed) ∧ FnD false P w K mg base 2 (He.ga K "_law_mixed") fd ["pot", "some"] (spO K (csK K) 2 o__law_mixed) ∧ PySem.W.keepIn K (.ref (He.ga K "_law_mixed")) = true ∧ Binds K fd ["pot", "some"] [] ∧ True := by
  obtain ⟨fd, D⟩ := Z.says.def_ 37 (d := z__law_mixed)
  refine ⟨fd, fn_d (N := N__law_mixed) D S__law_mixed fun cdv A outer s H E hr hg => b__law_mixed Z cdv A outer s H E hr hg, fn_dO (N := N__law_mixed) D S__law_mixed fun cdv A outer s H E hr hg => b__law_mixed Z cdv A outer s H E hr hg, D.kp, D.bindsN (fun _ _ _ _ _ _ us hl => match us, hl with
    | [a0, a1], _ => rfl), trivial⟩
/-! _law_is_count -/
def N__law_is_count : List Str := ["value", "most"]
theorem S__law_is_count : FnScope N__law_is_count ["value", "most"] (defScope (top 53)) := ⟨rfl, rfl, rfl, by decide +kernel, rfl, by decide +kernel, by decide +kernel⟩
def m__law_is_count : MS := (mRet (mTV (mAnd (mB (mIsT "int" (mVar 0))) (mB (mTV (mAnd (mB (mTV (mNot (mB (mIsT "bool" (mVar 0)))))) (mB (mChain dLe dLe (mC (.int 0)) (mVar 0) (mVar 1)))))))))
def d__law_is_count : List D → Mo D := runD 2 m__law_is_count
theorem b__law_is_count {P : Program} {w : World} {K : Fr'} {mg : Str → Option Value} {base : Heap} (Z : Zx P w K mg base) (cdv : Value) (A : Around) (outer : List Env) (s : Shared) (H : Hp) (E : XK) (hr : Room 0 (A.deeper (envOfC "_law_is_count" (defScope (top 53)) s.heap.objs.size (He.ga K "_law_is_count") cdv))) (hg : false = true → A.guards = some []) :
    PSsD (csK K) (cx0 P w K mg base N__law_is_count "_law_is_count" (defScope (top 53)) (He.ga K "_law_is_count") cdv A outer s H E) (defBody (top 53)) m__law_is_count := by
  exact (ss_one (s_ret (p_and (p_isT "int" Z.isi Z.fr_isinstance Z.fr_int (p_var 0)) (p_and (p_not (p_isT "bool" Z.isi Z.fr_isinstance Z.fr_bool (p_var 0))) (p_one (p_chain op_leI op_leI p_int (p_var 0) (p_var 1)))))))
theorem w__law_is_count {P : Program} {w : World} {K : Fr'} {mg : Str → Option Value} {base : Heap} (Z : Zx P w K mg base) : ∃ fd, FnD false P w K mg base 1 (He.ga K "_law_is_count") fd ["value", "most"] (spD K (csK K) 2 d__law_is_count) ∧ True ∧ PySem.W.keepIn K (.ref (He.ga K "_law_is_count")) = true ∧ Binds K fd ["value", "most"] [] ∧ True := by
  obtain ⟨fd, D⟩ := Z.says.def_ 38 (d := z__law_is_count)
  refine ⟨fd, fn_d (N := N__law_is_count) D S__law_is_count fun cdv A outer s H E hr hg => b__law_is_count Z cdv A outer s H E hr hg, trivial, D.kp, D.bindsN (fun _ _ _ _ _ _ us hl => match us, hl with
    | [a0, a1], _ => rfl), trivial⟩
/-! _law_is_deal -/
def N__law_is_deal : List Str := ["prime", "value", "one"]
theorem S__law_is_deal : FnScope N__law_is_deal ["prime", "value"] (defScope (top 54)) := ⟨rfl, rfl, rfl, by decide +kernel, rfl, by decide +kernel, by decide +kernel⟩
def m__law_is_deal : MS := (mSeq (mIfS (mOr (mNot (mB (mIsT2 "list" "tuple" (mVar 1)))) (mNot (mB (mCall cAll (mCons (mLst (mLc (srcS (mVar 1)) [2] (tgN 2) mYes (mCall (lenM 2 d__law_is_count) (mCons (mVar 2) (mCons (mBin dPowI (mC (.int 10)) (mC (.int 30))) mNil))))) mNil))))) (mRet (mC (.bl false))) mNx) (mRet (mBin (dEqU false) (mCall cSorted (mCons (mVar 1) mNil)) (mLst (oRg1 (mBin dMulI (mVar 0) (mVar 0)))))))
def d__law_is_deal : List D → Mo D := runD 3 m__law_is_deal
theorem b__law_is_deal {P : Program} {w : World} {K : Fr'} {mg : Str → Option Value} {base : Heap} (Z : Zx P w K mg base) (cdv : Value) (A : Around) (outer : List Env) (s : Shared) (H : Hp) (E : XK) (hr : Room 5 (A.deeper (envOfC "_law_is_deal" (defScope (top 54)) s.heap.objs.size (He.ga K "_law_is_deal") cdv))) (hg : false = true → A.guards = some []) :
    PSsD (csK K) (cx0 P w K mg base N__law_is_deal "_law_is_deal" (defScope (top 54)) (He.ga K "_law_is_deal") cdv A outer s H E) (defBody (top 54)) m__law_is_deal := by
  obtain ⟨fd__law_is_count, F__law_is_count, FO__law_is_count, hk__law_is_count, hb__law_is_count, _⟩ := w__law_is_count Z
  exact (ss_cons (s_if (PWD.pt (DL.pw_or (DL.pt_not (pt_v (p_isT2 "list" "tuple" Z.isi Z.fr_isinstance Z.fr_list Z.fr_tuple (p_var 1)))) (pw_one (DL.pt_not (pt_v (p_bltn (ca_all rfl) Z.fr_all (DL.pa_cons (POD.d (o_lc [("one", 2)] rfl S__law_is_deal.nd (blkOk_by rfl) ((i_seq (p_var 1))).j (fun _ _ _ _ _ => (g_name 2 S__law_is_deal.nd)) (fun _ _ _ _ _ => ts_nil) (fun _ _ _ _ _ => (p_call F__law_is_count (hr.mono (by decide)) (fun (z : false = true) => nomatch z) (Z.glo__law_is_count) hk__law_is_count hb__law_is_count (DL.pa_cons (p_var 2) (DL.pa_cons (p_bin op_powI p_int p_int) DL.pa_nil)))))) DL.pa_nil))))))) (ss_one (s_ret p_bl)) ss_nil) (ss_one (s_ret (p_cmp (op_eqU Z (hr.mono (by decide)) false) (p_bltn ca_sorted Z.fr_sorted (DL.pa_cons (p_var 1) DL.pa_nil)) (POD.d (o_listRg1 rfl Z.fr_list Z.fr_range (p_bin op_mulI (p_var 0) (p_var 0)))) rfl))))
theorem w__law_is_deal {P : Program} {w : World} {K : Fr'} {mg : Str → Option Value} {base : Heap} (Z : Zx P w K mg base) : ∃ fd, FnD false P w K mg base 6 (He.ga K "_law_is_deal") fd ["prime", "value"] (spD K (csK K) 2 d__law_is_deal) ∧ True ∧ PySem.W.keepIn K (.ref (He.ga K "_law_is_deal")) = true ∧ Binds K fd ["prime", "value"] [] ∧ True := by
  obtain ⟨fd, D⟩ := Z.says.def_ 39 (d := z__law_is_deal)
  refine ⟨fd, fn_d (N := N__law_is_deal) D S__law_is_deal fun cdv A outer s H E hr hg => b__law_is_deal Z cdv A outer s H E hr hg, trivial, D.kp, D.bindsN (fun _ _ _ _ _ _ us hl => match us, hl with
    | [a0, a1], _ => rfl), trivial⟩
/-! _law_is_move -/
def N__law_is_move : List Str := ["prime", "value", "one"]
theorem S__law_is_move : FnScope N__law_is_move ["prime", "value"] (defScope (top 55)) := ⟨rfl, rfl, rfl, by decide +kernel, rfl, by decide +kernel, by decide +kernel⟩
def m__law_is_move : MS := (mSeq (mIfS (mOr (mNot (mB (mIsT "tuple" (mVar 1)))) (mOr (mB (mBin (dEqF true) (mCall cLen (mCons (mVar 1) mNil)) (mC (.int 2)))) (mNot (mB (mIsT "str" (mBin atD (mVar 1) (mC (.int 0)))))))) (mRet (mC (.bl false))) mNx) (mSeq (mIfS (mB (mBin (dEqF false) (mBin atD (mVar 1) (mC (.int 0))) (mC (.str "turn")))) (mRet (mTV (mAnd (mB (mCall (lenM 2 d__law_is_count) (mCons (mBin atD (mVar 1) (mC (.int 1))) (mCons (mBin dSubI (mVar 0) (mC (.int 1))) mNil)))) (mB (mBin dGt (mBin atD (mVar 1) (mC (.int 1))) (mC (.int 0))))))) mNx) (mSeq (mIfS (mOr (mB (mBin (dInF true) (mBin atD (mVar 1) (mC (.int 0))) (mLst (mNew (mCons (mC (.str "x")) (mCons (mC (.str "y")) mNil)))))) (mOr (mNot (mB (mIsT2 "list" "tuple" (mBin atD (mVar 1) (mC (.int 1)))))) (mB (mBin (dEqF true) (mCall cLen (mCons (mBin atD (mVar 1) (mC (.int 1))) mNil)) (mVar 0))))) (mRet (mC (.bl false))) mNx) (mRet (mCall cAll (mCons (mLst (mLc (srcS (mBin atD (mVar 1) (mC (.int 1)))) [2] (tgN 2) mYes (mCall (lenM 2 d__law_is_count) (mCons (mVar 2) (mCons (mBin dSubI (mVar 0) (mC (.int 1))) mNil))))) mNil))))))
def d__law_is_move : List D → Mo D := runD 3 m__law_is_move
theorem b__law_is_move {P : Program} {w : World} {K : Fr'} {mg : Str → Option Value} {base : Heap} (Z : Zx P w K mg base) (cdv : Value) (A : Around) (outer : List Env) (s : Shared) (H : Hp) (E : XK) (hr : Room 1 (A.deeper (envOfC "_law_is_move" (defScope (top 55)) s.heap.objs.size (He.ga K "_law_is_move") cdv))) (hg : false = true → A.guards = some []) :
    PSsD (csK K) (cx0 P w K mg base N__law_is_move "_law_is_move" (defScope (top 55)) (He.ga K "_law_is_move") cdv A outer s H E) (defBody (top 55)) m__law_is_move := by
  obtain ⟨fd__law_is_count, F__law_is_count, FO__law_is_count, hk__law_is_count, hb__law_is_count, _⟩ := w__law_is_count Z
  exact (ss_cons (s_if (PWD.pt (DL.pw_or (DL.pt_not (pt_v (p_isT "tuple" Z.isi Z.fr_isinstance Z.fr_tuple (p_var 1)))) (DL.pw_or (pt_cmp (op_eqF true) (p_bltn ca_len Z.fr_len (DL.pa_cons (p_var 1) DL.pa_nil)) p_int rfl) (pw_one (DL.pt_not (pt_v (p_isT "str" Z.isi Z.fr_isinstance Z.fr_str (p_ix (p_var 1) p_int)))))))) (ss_one (s_ret p_bl)) ss_nil) (ss_cons (s_if (pt_cmp (op_eqF false) (p_ix (p_var 1) p_int) p_str rfl) (ss_one (s_ret (p_and (p_call F__law_is_count (hr.mono (by decide)) (fun (z : false = true) => nomatch z) (Z.glo__law_is_count) hk__law_is_count hb__law_is_count (DL.pa_cons (p_ix (p_var 1) p_int) (DL.pa_cons (p_bin op_subI (p_var 0) p_int) DL.pa_nil))) (p_one (p_cmp op_gtI (p_ix (p_var 1) p_int) p_int rfl))))) ss_nil) (ss_cons (s_if (PWD.pt (DL.pw_or (pt_cmp (op_inF true) (p_ix (p_var 1) p_int) (POD.d (o_lst (DL.pa_cons p_str (DL.pa_cons p_str DL.pa_nil)))) rfl) (DL.pw_or (DL.pt_not (pt_v (p_isT2 "list" "tuple" Z.isi Z.fr_isinstance Z.fr_list Z.fr_tuple (p_ix (p_var 1) p_int)))) (pw_one (pt_cmp (op_eqF true) (p_bltn ca_len Z.fr_len (DL.pa_cons (p_ix (p_var 1) p_int) DL.pa_nil)) (p_var 0) rfl))))) (ss_one (s_ret p_bl)) ss_nil) (ss_one (s_ret (p_bltn (ca_all rfl) Z.fr_all (DL.pa_cons (POD.d (o_lc [("one", 2)] rfl S__law_is_move.nd (blkOk_by rfl) ((i_seq (p_ix (p_var 1) p_int))).j (fun _ _ _ _ _ => (g_name 2 S__law_is_move.nd)) (fun _ _ _ _ _ => ts_nil) (fun _ _ _ _ _ => (p_call F__law_is_count (hr.mono (by decide)) (fun (z : false = true) => nomatch z) (Z.glo__law_is_count) hk__law_is_count hb__law_is_count (DL.pa_cons (p_var 2) (DL.pa_cons (p_bin op_subI (p_var 0) p_int) DL.pa_nil)))))) DL.pa_nil)))))))
theorem w__law_is_move {P : Program} {w : World} {K : Fr'} {mg : Str → Option Value} {base : Heap} (Z : Zx P w K mg base) : ∃ fd, FnD false P w K mg base 2 (He.ga K "_law_is_move") fd ["prime", "value"] (spD K (csK K) 2 d__law_is_move) ∧ True ∧ PySem.W.keepIn K (.ref (He.ga K "_law_is_move")) = true ∧ Binds K fd ["prime", "value"] [] ∧ True := by
  obtain ⟨fd, D⟩ := Z.says.def_ 40 (d := z__law_is_move)
  refine ⟨fd, fn_d (N := N__law_is_move) D S__law_is_move fun cdv A outer s H E hr hg => b__law_is_move Z cdv A outer s H E hr hg, trivial, D.kp, D.bindsN (fun _ _ _ _ _ _ us hl => match us, hl with
    | [a0, a1], _ => rfl), trivial⟩
/-! _law_is_play -/
def N__law_is_play : List Str := ["prime", "value", "move"]
theorem S__law_is_play : FnScope N__law_is_play ["prime", "value"] (defScope (top 56)) := ⟨rfl, rfl, rfl, by decide +kernel, rfl, by decide +kernel, by decide +kernel⟩
def m__law_is_play : MS := (mSeq (mIfS (mOr (mNot (mB (mIsT2 "list" "tuple" (mVar 1)))) (mB (mBin dGt (mCall cLen (mCons (mVar 1) mNil)) (mC (.int 1500))))) (mRet (mC (.bl false))) mNx) (mRet (mCall cAll (mCons (mLst (mLc (srcS (mVar 1)) [2] (tgN 2) mYes (mCall (lenM 2 d__law_is_move) (mCons (mVar 0) (mCons (mVar 2) mNil))))) mNil))))
def d__law_is_play : List D → Mo D := runD 3 m__law_is_play
theorem b__law_is_play {P : Program} {w : World} {K : Fr'} {mg : Str → Option Value} {base : Heap} (Z : Zx P w K mg base) (cdv : Value) (A : Around) (outer : List Env) (s : Shared) (H : Hp) (E : XK) (hr : Room 2 (A.deeper (envOfC "_law_is_play" (defScope (top 56)) s.heap.objs.size (He.ga K "_law_is_play") cdv))) (hg : false = true → A.guards = some []) :
    PSsD (csK K) (cx0 P w K mg base N__law_is_play "_law_is_play" (defScope (top 56)) (He.ga K "_law_is_play") cdv A outer s H E) (defBody (top 56)) m__law_is_play := by
  obtain ⟨fd__law_is_move, F__law_is_move, FO__law_is_move, hk__law_is_move, hb__law_is_move, _⟩ := w__law_is_move Z
  exact (ss_cons (s_if (PWD.pt (DL.pw_or (DL.pt_not (pt_v (p_isT2 "list" "tuple" Z.isi Z.fr_isinstance Z.fr_list Z.fr_tuple (p_var 1)))) (pw_one (pt_cmp op_gtI (p_bltn ca_len Z.fr_len (DL.pa_cons (p_var 1) DL.pa_nil)) p_int rfl)))) (ss_one (s_ret p_bl)) ss_nil) (ss_one (s_ret (p_bltn (ca_all rfl) Z.fr_all (DL.pa_cons (POD.d (o_lc [("move", 2)] rfl S__law_is_play.nd (blkOk_by rfl) ((i_seq (p_var 1))).j (fun _ _ _ _ _ => (g_name 2 S__law_is_play.nd)) (fun _ _ _ _ _ => ts_nil) (fun _ _ _ _ _ => (p_call F__law_is_move (hr.mono (by decide)) (fun (z : false = true) => nomatch z) (Z.glo__law_is_move) hk__law_is_move hb__law_is_move (DL.pa_cons (p_var 0) (DL.pa_cons (p_var 2) DL.pa_nil)))))) DL.pa_nil)))))
theorem w__law_is_play {P : Program} {w : World} {K : Fr'} {mg : Str → Option Value} {base : Heap} (Z : Zx P w K mg base) : ∃ fd, FnD false P w K mg base 3 (He.ga K "_law_is_play") fd ["prime", "value"] (spD K (csK K) 2 d__law_is_play) ∧ True ∧ PySem.W.keepIn K (.ref (He.ga K "_law_is_play")) = true ∧ Binds K fd ["prime", "value"] [] ∧ True := by
  obtain ⟨fd, D⟩ := Z.says.def_ 41 (d := z__law_is_play)
  refine ⟨fd, fn_d (N := N__law_is_play) D S__law_is_play fun cdv A outer s H E hr hg => b__law_is_play Z cdv A outer s H E hr hg, trivial, D.kp, D.bindsN (fun _ _ _ _ _ _ us hl => match us, hl with
    | [a0, a1], _ => rfl), trivial⟩
/-! _law_moved -/
def N__law_moved : List Str := ["prime", "move", "place", "word", "given", "near", "far"]
theorem S__law_moved : FnScope N__law_moved ["prime", "move", "place"] (defScope (top 57)) := ⟨rfl, rfl, rfl, by decide +kernel, rfl, by decide +kernel, by decide +kernel⟩
def m__law_moved : MS := (mSeq (mAsg (tgTup 2 (tgCons (tgN 3) (tgCons (tgN 4) tgNil))) (mVar 1)) (mSeq (mAsg (tgTup 2 (tgCons (tgN 5) (tgCons (tgN 6) tgNil))) (mVar 2)) (mSeq (mIfS (mB (mBin (dEqF false) (mVar 3) (mC (.str "turn")))) (mRet (mTup (mCons (mVar 5) (mCons (mBin dModI (mCall cInt (mCons (mBin dMulI (mVar 6) (mVar 4)) mNil)) (mVar 0)) mNil)))) mNx) (mSeq (mIfS (mB (mBin (dEqF false) (mVar 3) (mC (.str "y")))) (mRet (mTup (mCons (mVar 5) (mCons (mBin dModI (mCall cInt (mCons (mBin dAddI (mVar 6) (mBin atD (mVar 4) (mVar 5))) mNil)) (mVar 0)) mNil)))) mNx) (mRet (mTup (mCons (mBin dModI (mCall cInt (mCons (mBin dAddI (mVar 5) (mBin atD (mVar 4) (mVar 6))) mNil)) (mVar 0)) (mCons (mVar 6) mNil))))))))
def d__law_moved : List D → Mo D := runD 7 m__law_moved
theorem b__law_moved {P : Program} {w : World} {K : Fr'} {mg : Str → Option Value} {base : Heap} (Z : Zx P w K mg base) (cdv : Value) (A : Around) (outer : List Env) (s : Shared) (H : Hp) (E : XK) (hr : Room 0 (A.deeper (envOfC "_law_moved" (defScope (top 57)) s.heap.objs.size (He.ga K "_law_moved") cdv))) (hg : false = true → A.guards = some []) :
    PSsD (csK K) (cx0 P w K mg base N__law_moved "_law_moved" (defScope (top 57)) (He.ga K "_law_moved") cdv A outer s H E) (defBody (top 57)) m__law_moved := by
  exact (ss_cons (s_asg (p_var 1) (g_tup rfl (gs_cons (g_name 3 S__law_moved.nd) (gs_cons (g_name 4 S__law_moved.nd) gs_nil)))) (ss_cons (s_asg (p_var 2) (g_tup rfl (gs_cons (g_name 5 S__law_moved.nd) (gs_cons (g_name 6 S__law_moved.nd) gs_nil)))) (ss_cons (s_if (pt_cmp (op_eqF false) (p_var 3) p_str rfl) (ss_one (s_ret (p_tup (DL.pa_cons (p_var 5) (DL.pa_cons (p_bin op_modI (p_type ca_int Z.fr_int (DL.pa_cons (p_bin op_mulI (p_var 6) (p_var 4)) DL.pa_nil)) (p_var 0)) DL.pa_nil))))) ss_nil) (ss_cons (s_if (pt_cmp (op_eqF false) (p_var 3) p_str rfl) (ss_one (s_ret (p_tup (DL.pa_cons (p_var 5) (DL.pa_cons (p_bin op_modI (p_type ca_int Z.fr_int (DL.pa_cons (p_bin op_addI (p_var 6) (p_ix (p_var 4) (p_var 5))) DL.pa_nil)) (p_var 0)) DL.pa_nil))))) ss_nil) (ss_one (s_ret (p_tup (DL.pa_cons (p_bin op_modI (p_type ca_int Z.fr_int (DL.pa_cons (p_bin op_addI (p_var 5) (p_ix (p_var 4) (p_var 6))) DL.pa_nil)) (p_var 0)) (DL.pa_cons (p_var 6) DL.pa_nil)))))))))
theorem w__law_moved {P : Program} {w : World} {K : Fr'} {mg : Str → Option Value} {base : Heap} (Z : Zx P w K mg base) : ∃ fd, FnD false P w K mg base 1 (He.ga K "_law_moved") fd ["prime", "move", "place"] (spD K (csK K) 3 d__law_moved) ∧ True ∧ PySem.W.keepIn K (.ref (He.ga K "_law_moved")) = true ∧ Binds K fd ["prime", "move", "place"] [] ∧ True := by
  obtain ⟨fd, D⟩ := Z.says.def_ 42 (d := z__law_moved)
  refine ⟨fd, fn_d (N := N__law_moved) D S__law_moved fun cdv A outer s H E hr hg => b__law_moved Z cdv A outer s H E hr hg, trivial, D.kp, D.bindsN (fun _ _ _ _ _ _ us hl => match us, hl with
    | [a0, a1, a2], _ => rfl), trivial⟩
/-! _law_played -/
def N__law_played : List Str := ["prime", "play", "found", "near", "far", "here", "move"]
theorem S__law_played : FnScope N__law_played ["prime", "play"] (defScope (top 58)) := ⟨rfl, rfl, rfl, by decide +kernel, rfl, by decide +kernel, by decide +kernel⟩
def m__law_played : MS := (mSeq (mSetO 2 (mNew mNil)) (mSeq (mFor (srcR1 (mCons (mVar 0) mNil)) (tgN 3) (mFor (srcR1 (mCons (mVar 0) mNil)) (tgN 4) (mSeq (mSet 5 (mTup (mCons (mVar 3) (mCons (mVar 4) mNil)))) (mSeq (mFor (srcS (mVar 1)) (tgN 6) (mSet 5 (mCall (lenM 3 d__law_moved) (mCons (mVar 0) (mCons (mVar 6) (mCons (mVar 5) mNil)))))) (mApp 2 (mBin dAddI (mBin dMulI (mBin atD (mVar 5) (mC (.int 0))) (mVar 0)) (mBin atD (mVar 5) (mC (.int 1))))))))) (mRetX 2)))
def d__law_played : List D → Mo D := runD 7 m__law_played
def o__law_played : List D → Mo (List D) := runO 7 m__law_played
theorem b__law_played {P : Program} {w : World} {K : Fr'} {mg : Str → Option Value} {base : Heap} (Z : Zx P w K mg base) (cdv : Value) (A : Around) (outer : List Env) (s : Shared) (H : Hp) (E : XK) (hr : Room 1 (A.deeper (envOfC "_law_played" (defScope (top 58)) s.heap.objs.size (He.ga K "_law_played") cdv))) (hg : false = true → A.guards = some []) :
    PSsD (csK K) (cx0 P w K mg base N__law_played "_law_played" (defScope (top 58)) (He.ga K "_law_played") cdv A outer s H E) (defBody (top 58)) m__law_played := by
  obtain ⟨fd__law_moved, F__law_moved, FO__law_moved, hk__law_moved, hb__law_moved, _⟩ := w__law_moved Z
  exact (ss_cons (s_setO 2 S__law_played.nd (o_lst DL.pa_nil)) (ss_cons (s_for PassesOwn.never rfl (i_range1 Z.fr_range (DL.pa_cons (p_var 0) DL.pa_nil)) (g_name 3 S__law_played.nd) (ss_one (s_for PassesOwn.never rfl (i_range1 Z.fr_range (DL.pa_cons (p_var 0) DL.pa_nil)) (g_name 4 S__law_played.nd) (ss_cons (s_set 5 S__law_played.nd (p_tup (DL.pa_cons (p_var 3) (DL.pa_cons (p_var 4) DL.pa_nil)))) (ss_cons (s_for PassesOwn.never rfl (i_seq (p_var 1)) (g_name 6 S__law_played.nd) (ss_one (s_set 5 S__law_played.nd (p_call F__law_moved (hr.mono (by decide)) (fun (z : false = true) => nomatch z) (Z.glo__law_moved) hk__law_moved hb__law_moved (DL.pa_cons (p_var 0) (DL.pa_cons (p_var 6) (DL.pa_cons (p_var 5) DL.pa_nil))))))) (ss_one (s_app 2 (p_bin op_addI (p_bin op_mulI (p_ix (p_var 5) p_int) (p_var 0)) (p_ix (p_var 5) p_int))))))))) (ss_one (s_retX 2))))
theorem w__law_played {P : Program} {w : World} {K : Fr'} {mg : Str → Option Value} {base : Heap} (Z : Zx P w K mg base) : ∃ fd, FnD false P w K mg base 2 (He.ga K "_law_played") fd ["prime", "play"] (spD K (csK K) 2 d__law_played) ∧ FnD false P w K mg base 2 (He.ga K "_law_played") fd ["prime", "play"] (spO K (csK K) 2 o__law_played) ∧ PySem.W.keepIn K (.ref (He.ga K "_law_played")) = true ∧ Binds K fd ["prime", "play"] [] ∧ True := by
  obtain ⟨fd, D⟩ := Z.says.def_ 43 (d := z__law_played)
  refine ⟨fd, fn_d (N := N__law_played) D S__law_played fun cdv A outer s H E hr hg => b__law_played Z cdv A outer s H E hr hg, fn_dO (N := N__law_played) D S__law_played fun cdv A outer s H E hr hg => b__law_played Z cdv A outer s H E hr hg, D.kp, D.bindsN (fun _ _ _ _ _ _ us hl => match us, hl with
    | [a0, a1], _ => rfl), trivial⟩
/-! _law_undone -/
def N__law_undone : List Str := ["prime", "move", "word", "given", "count", "one"]
theorem S__law_undone : FnScope N__law_undone ["prime", "move"] (defScope (top 59)) := ⟨rfl, rfl, rfl, by decide +kernel, rfl, by decide +kernel, by decide +kernel⟩
def m__law_undone : MS := (mSeq (mAsg (tgTup 2 (tgCons (tgN 2) (tgCons (tgN 3) tgNil))) (mVar 1)) (mSeq (mIfS (mB (mBin (dEqF false) (mVar 2) (mC (.str "turn")))) (mRet (mTup (mCons (mVar 2) (mCons (mBin atD (mLst (mLc (srcR1 (mCons (mVar 0) mNil)) [4] (tgN 4) (mB (mBin (dEqF false) (mBin dModI (mCall cInt (mCons (mBin dMulI (mVar 4) (mVar 3)) mNil)) (mVar 0)) (mC (.int 1)))) (mVar 4))) (mC (.int 0))) mNil)))) mNx) (mRet (mTup (mCons (mVar 2) (mCons (mLst (mLc (srcS (mVar 3)) [5] (tgN 5) mYes (mBin dModI (mCall cInt (mCons (mBin dSubI (mVar 0) (mVar 5)) mNil)) (mVar 0)))) mNil))))))
def d__law_undone : List D → Mo D := runD 6 m__law_undone
theorem b__law_undone {P : Program} {w : World} {K : Fr'} {mg : Str → Option Value} {base : Heap} (Z : Zx P w K mg base) (cdv : Value) (A : Around) (outer : List Env) (s : Shared) (H : Hp) (E : XK) (hr : Room 0 (A.deeper (envOfC "_law_undone" (defScope (top 59)) s.heap.objs.size (He.ga K "_law_undone") cdv))) (hg : false = true → A.guards = some []) :
    PSsD (csK K) (cx0 P w K mg base N__law_undone "_law_undone" (defScope (top 59)) (He.ga K "_law_undone") cdv A outer s H E) (defBody (top 59)) m__law_undone := by
  exact (ss_cons (s_asg (p_var 1) (g_tup rfl (gs_cons (g_name 2 S__law_undone.nd) (gs_cons (g_name 3 S__law_undone.nd) gs_nil)))) (ss_cons (s_if (pt_cmp (op_eqF false) (p_var 2) p_str rfl) (ss_one (s_ret (p_tup (DL.pa_cons (p_var 2) (DL.pa_cons (p_ix (POD.d (o_lc [("count", 4)] rfl S__law_undone.nd (blkOk_by rfl) ((i_range1 Z.fr_range (DL.pa_cons (p_var 0) DL.pa_nil))).j (fun _ _ _ _ _ => (g_name 4 S__law_undone.nd)) (fun _ _ _ _ _ => (ts_one (pt_cmp (op_eqF false) (p_bin op_modI (p_type ca_int Z.fr_int (DL.pa_cons (p_bin op_mulI (p_var 4) (p_var 3)) DL.pa_nil)) (p_var 0)) p_int rfl))) (fun _ _ _ _ _ => (p_var 4)))) p_int) DL.pa_nil))))) ss_nil) (ss_one (s_ret (p_tup (DL.pa_cons (p_var 2) (DL.pa_cons (POD.d (o_lc [("one", 5)] rfl S__law_undone.nd (blkOk_by rfl) ((i_seq (p_var 3))).j (fun _ _ _ _ _ => (g_name 5 S__law_undone.nd)) (fun _ _ _ _ _ => ts_nil) (fun _ _ _ _ _ => (p_bin op_modI (p_type ca_int Z.fr_int (DL.pa_cons (p_bin op_subI (p_var 0) (p_var 5)) DL.pa_nil)) (p_var 0))))) DL.pa_nil)))))))
theorem w__law_undone {P : Program} {w : World} {K : Fr'} {mg : Str → Option Value} {base : Heap} (Z : Zx P w K mg base) : ∃ fd, FnD false P w K mg base 1 (He.ga K "_law_undone") fd ["prime", "move"] (spD K (csK K) 2 d__law_undone) ∧ True ∧ PySem.W.keepIn K (.ref (He.ga K "_law_undone")) = true ∧ Binds K fd ["prime", "move"] [] ∧ True := by
  obtain ⟨fd, D⟩ := Z.says.def_ 44 (d := z__law_undone)
  refine ⟨fd, fn_d (N := N__law_undone) D S__law_undone fun cdv A outer s H E hr hg => b__law_undone Z cdv A outer s H E hr hg, trivial, D.kp, D.bindsN (fun _ _ _ _ _ _ us hl => match us, hl with
    | [a0, a1], _ => rfl), trivial⟩
/-! _law_move -/
def N__law_move : List Str := ["pot", "prime", "word", "given", "at"]
theorem S__law_move : FnScope N__law_move ["pot", "prime"] (defScope (top 60)) := ⟨rfl, rfl, rfl, by decide +kernel, rfl, by decide +kernel, by decide +kernel⟩
def m__law_move : MS := (mSeq (mSet 2 (mCall (lenM 2 d__law_pick) (mCons (mVar 0) (mCons (mLst (mNew (mCons (mC (.str "x")) (mCons (mC (.str "y")) (mCons (mC (.str "x")) (mCons (mC (.str "y")) (mCons (mC (.str "turn")) mNil))))))) mNil)))) (mSeq (mIfS (mB (mBin (dEqF false) (mVar 2) (mC (.str "turn")))) (mRet (mTup (mCons (mVar 2) (mCons (mBin dAddI (mC (.int 1)) (mCall (lenM 2 d__law_draw) (mCons (mVar 0) (mCons (mBin dSubI (mVar 1) (mC (.int 1))) mNil)))) mNil)))) mNx) (mSeq (mSetO 3 (mLc (srcR1 (mCons (mVar 1) mNil)) [4] (tgN 4) mYes (mCall (lenM 2 d__law_draw) (mCons (mVar 0) (mCons (mVar 1) mNil))))) (mFrz 3 (mRet (mTup (mCons (mVar 2) (mCons (mIf (mB (mBin (dEqF false) (mCall (lenM 2 d__law_draw) (mCons (mVar 0) (mCons (mC (.int 2)) mNil))) (mC (.int 0)))) (mVar 3) (mCall cTup (mCons (mVar 3) mNil))) mNil))))))))
def d__law_move : List D → Mo D := runD 5 m__law_move
theorem b__law_move {P : Program} {w : World} {K : Fr'} {mg : Str → Option Value} {base : Heap} (Z : Zx P w K mg base) (cdv : Value) (A : Around) (outer : List Env) (s : Shared) (H : Hp) (E : XK) (hr : Room 2 (A.deeper (envOfC "_law_move" (defScope (top 60)) s.heap.objs.size (He.ga K "_law_move") cdv))) (hg : false = true → A.guards = some []) :
    PSsD (csK K) (cx0 P w K mg base N__law_move "_law_move" (defScope (top 60)) (He.ga K "_law_move") cdv A outer s H E) (defBody (top 60)) m__law_move := by
  obtain ⟨fd__law_draw, F__law_draw, FO__law_draw, hk__law_draw, hb__law_draw, _⟩ := w__law_draw Z
  obtain ⟨fd__law_pick, F__law_pick, FO__law_pick, hk__law_pick, hb__law_pick, _⟩ := w__law_pick Z
  exact (ss_cons (s_set 2 S__law_move.nd (p_call F__law_pick (hr.mono (by decide)) (fun (z : false = true) => nomatch z) (Z.glo__law_pick) hk__law_pick hb__law_pick (DL.pa_cons (p_var 0) (DL.pa_cons (POD.d (o_lst (DL.pa_cons p_str (DL.pa_cons p_str (DL.pa_cons p_str (DL.pa_cons p_str (DL.pa_cons p_str DL.pa_nil))))))) DL.pa_nil)))) (ss_cons (s_if (pt_cmp (op_eqF false) (p_var 2) p_str rfl) (ss_one (s_ret (p_tup (DL.pa_cons (p_var 2) (DL.pa_cons (p_bin op_addI p_int (p_call F__law_draw (hr.mono (by decide)) (fun (z : false = true) => nomatch z) (Z.glo__law_draw) hk__law_draw hb__law_draw (DL.pa_cons (p_var 0) (DL.pa_cons (p_bin op_subI (p_var 1) p_int) DL.pa_nil)))) DL.pa_nil))))) ss_nil) (ss_cons (s_lc 3 [("at", 4)] rfl S__law_move.nd (sw_true rfl rfl rfl rfl) (blkOk_by rfl) ((i_range1 Z.fr_range (DL.pa_cons (p_var 1) DL.pa_nil))).j (fun _ _ _ _ _ => (g_name 4 S__law_move.nd)) (fun _ _ _ _ _ => ts_nil) (fun _ _ _ _ _ => (p_call F__law_draw (hr.mono (by decide)) (fun (z : false = true) => nomatch z) (Z.glo__law_draw) hk__law_draw hb__law_draw (DL.pa_cons (p_var 0) (DL.pa_cons (p_var 1) DL.pa_nil))))) (ss_frz 3 (ss_one (s_ret (p_tup (DL.pa_cons (p_var 2) (DL.pa_cons (p_if (pt_cmp (op_eqF false) (p_call F__law_draw (hr.mono (by decide)) (fun (z : false = true) => nomatch z) (Z.glo__law_draw) hk__law_draw hb__law_draw (DL.pa_cons (p_var 0) (DL.pa_cons p_int DL.pa_nil))) p_int rfl) (p_var 3) (p_type ca_tup Z.fr_tuple (DL.pa_cons (p_var 3) DL.pa_nil))) DL.pa_nil)))))))))
theorem w__law_move {P : Program} {w : World} {K : Fr'} {mg : Str → Option Value} {base : Heap} (Z : Zx P w K mg base) : ∃ fd, FnD false P w K mg base 3 (He.ga K "_law_move") fd ["pot", "prime"] (spD K (csK K) 2 d__law_move) ∧ True ∧ PySem.W.keepIn K (.ref (He.ga K "_law_move")) = true ∧ Binds K fd ["pot", "prime"] [] ∧ True := by
  obtain ⟨fd, D⟩ := Z.says.def_ 45 (d := z__law_move)
  refine ⟨fd, fn_d (N := N__law_move) D S__law_move fun cdv A outer s H E hr hg => b__law_move Z cdv A outer s H E hr hg, trivial, D.kp, D.bindsN (fun _ _ _ _ _ _ us hl => match us, hl with
    | [a0, a1], _ => rfl), trivial⟩
/-! _law_bent_move -/
def N__law_bent_move : List Str := ["pot", "prime", "given", "at", "odd", "some", "turn"]
theorem S__law_bent_move : FnScope N__law_bent_move ["pot", "prime"] (defScope (top 61)) := ⟨rfl, rfl, rfl, by decide +kernel, rfl, by decide +kernel, by decide +kernel⟩
def m__law_bent_move : MS := (mSeq (mPar 2 3 (mCons (mLst (mLc (srcR1 (mCons (mVar 1) mNil)) [6] (tgN 6) mYes (mCall (lenM 2 d__law_draw) (mCons (mVar 0) (mCons (mVar 1) mNil))))) (mCons (mCall (lenM 2 d__law_draw) (mCons (mVar 0) (mCons (mVar 1) mNil))) mNil))) (mSeq (mSet 4 (mCall (lenM 2 d__law_pick) (mCons (mVar 0) (mCons (mLst (mNew (mCons (mVar 1) (mCons (mUn dNegI (mC (.int 1))) (mCons (mC (.bl true)) (mCons (mC (.bl false)) (mCons (mC .non) (mCons (mC (.str "1")) (mCons (mLst (mNew (mCons (mC (.int 1)) mNil))) (mCons (mTup (mCons (mC (.int 1)) mNil)) (mCons (mBin dPowI (mC (.int 10)) (mC (.int 20))) (mCons (mCall (mk_Ratio_1 d_Ratio___init__) (mCons (mC (.int 1)) mNil)) (mCons (mCall (mk_Ratio_1 d_Ratio___init__) (mCons (mC (.int 0)) mNil)) mNil))))))))))))) mNil)))) (mSeq (mSetO 5 (mNew (mCons (mTup (mCons (mC (.str "y")) (mCons (mLst (oCat (mLst (oCat (mLst (oSlice (mVar 2) mNoP (mPart (mVar 3)))) (mLst (mNew (mCons (mVar 4) mNil))))) (mLst (oSlice (mVar 2) (mPart (mBin dAddI (mVar 3) (mC (.int 1)))) mNoP)))) mNil))) (mCons (mTup (mCons (mC (.str "x")) (mCons (mCall cTup (mCons (mLst (oCat (mLst (oCat (mLst (oSlice (mVar 2) mNoP (mPart (mVar 3)))) (mLst (mNew (mCons (mVar 4) mNil))))) (mLst (oSlice (mVar 2) (mPart (mBin dAddI (mVar 3) (mC (.int 1)))) mNoP)))) mNil)) mNil))) (mCons (mTup (mCons (mC (.str "turn")) (mCons (mVar 4) mNil))) (mCons (mTup (mCons (mC (.str "turn")) (mCons (mC (.int 0)) mNil))) mNil)))))) (mSeq (mExt 5 (mLst (mNew (mCons (mTup (mCons (mC (.str "y")) (mCons (mLst (oCat (mVar 2) (mLst (mNew (mCons (mC (.int 0)) mNil))))) mNil))) (mCons (mTup (mCons (mC (.str "x")) (mCons (mLst (oSlice (mVar 2) (mPart (mC (.int 1))) mNoP)) mNil))) (mCons (mTup (mCons (mC (.str "y")) (mCons (mTup mNil) mNil))) (mCons (mTup (mCons (mC (.str "x")) (mCons (mC (.int 0)) mNil))) (mCons (mTup (mCons (mC (.str "y")) (mCons (mC .non) mNil))) (mCons (mTup (mCons (mC (.str "turn")) (mCons (mBin dSubI (mVar 1) (mC (.int 1))) mNil))) (mCons (mTup (mCons (mC (.str "turn")) (mCons (mLst (mNew (mCons (mC (.int 1)) mNil))) mNil))) (mCons (mTup (mCons (mC (.str "turn")) mNil)) mNil))))))))))) (mSeq (mExt 5 (mLst (mNew (mCons (mTup (mCons (mC (.str "z")) (mCons (mVar 2) mNil))) (mCons (mTup (mCons (mC (.str "Y")) (mCons (mVar 2) mNil))) (mCons (mTup (mCons (mC (.str "")) (mCons (mVar 2) mNil))) (mCons (mTup (mCons (mC (.str "turns")) (mCons (mC (.int 1)) mNil))) (mCons (mTup (mCons (mC .non) (mCons (mVar 2) mNil))) (mCons (mTup (mCons (mC (.int 0)) (mCons (mVar 2) mNil))) (mCons (mLst (mNew (mCons (mC (.str "y")) (mCons (mVar 2) mNil)))) (mCons (mTup (mCons (mC (.str "y")) (mCons (mVar 2) (mCons (mC (.int 0)) mNil)))) (mCons (mTup (mCons (mC (.str "y")) mNil)) mNil)))))))))))) (mFrz 5 (mRet (mCall (lenM 2 d__law_pick) (mCons (mVar 0) (mCons (mLst (oCat (mVar 5) (mLst (mNew (mCons (mC .non) (mCons (mC (.str "y")) (mCons (mC (.int 1)) (mCons (mTup mNil) (mCons (mLst (mNew mNil)) (mCons (mC .ed) (mCons (mTup (mCons (mVar 2) (mCons (mC (.str "y")) mNil))) (mCons (mTup (mCons (mC (.str "y")) (mCons (mCall cTup (mCons (mVar 2) mNil)) mNil))) (mCons (mTup (mCons (mC (.str "x")) (mCons (mC .ed) mNil))) mNil))))))))))))) mNil))))))))))
def d__law_bent_move : List D → Mo D := runD 7 m__law_bent_move
theorem b__law_bent_move {P : Program} {w : World} {K : Fr'} {mg : Str → Option Value} {base : Heap} (Z : Zx P w K mg base) (cdv : Value) (A : Around) (outer : List Env) (s : Shared) (H : Hp) (E : XK) (hr : Room 3 (A.deeper (envOfC "_law_bent_move" (defScope (top 61)) s.heap.objs.size (He.ga K "_law_bent_move") cdv))) (hg : false = true → A.guards = some []) :
    PSsD (csK K) (cx0 P w K mg base N__law_bent_move "_law_bent_move" (defScope (top 61)) (He.ga K "_law_bent_move") cdv A outer s H E) (defBody (top 61)) m__law_bent_move := by
  obtain ⟨fd__law_draw, F__law_draw, FO__law_draw, hk__law_draw, hb__law_draw, _⟩ := w__law_draw Z
  obtain ⟨fd__law_pick, F__law_pick, FO__law_pick, hk__law_pick, hb__law_pick, _⟩ := w__law_pick Z
  exact (ss_cons (s_par 2 3 rfl S__law_bent_move.nd (DL.pa_cons (POD.d (o_lc [("turn", 6)] rfl S__law_bent_move.nd (blkOk_by rfl) ((i_range1 Z.fr_range (DL.pa_cons (p_var 1) DL.pa_nil))).j (fun _ _ _ _ _ => (g_name 6 S__law_bent_move.nd)) (fun _ _ _ _ _ => ts_nil) (fun _ _ _ _ _ => (p_call F__law_draw (hr.mono (by decide)) (fun (z : false = true) => nomatch z) (Z.glo__law_draw) hk__law_draw hb__law_draw (DL.pa_cons (p_var 0) (DL.pa_cons (p_var 1) DL.pa_nil)))))) (DL.pa_cons (p_call F__law_draw (hr.mono (by decide)) (fun (z : false = true) => nomatch z) (Z.glo__law_draw) hk__law_draw hb__law_draw (DL.pa_cons (p_var 0) (DL.pa_cons (p_var 1) DL.pa_nil))) DL.pa_nil)) rfl) (ss_cons (s_set 4 S__law_bent_move.nd (p_call F__law_pick (hr.mono (by decide)) (fun (z : false = true) => nomatch z) (Z.glo__law_pick) hk__law_pick hb__law_pick (DL.pa_cons (p_var 0) (DL.pa_cons (POD.d (o_lst (DL.pa_cons (p_var 1) (DL.pa_cons (p_neg p_int) (DL.pa_cons p_bl (DL.pa_cons p_bl (DL.pa_cons p_non (DL.pa_cons p_str (DL.pa_cons (POD.d (o_lst (DL.pa_cons p_int DL.pa_nil))) (DL.pa_cons (p_tup (DL.pa_cons p_int DL.pa_nil)) (DL.pa_cons (p_bin op_powI p_int p_int) (DL.pa_cons (mkW_Ratio_1 Z (hr.mono (by decide)) (DL.pa_cons p_int DL.pa_nil)) (DL.pa_cons (mkW_Ratio_1 Z (hr.mono (by decide)) (DL.pa_cons p_int DL.pa_nil)) DL.pa_nil))))))))))))) DL.pa_nil)))) (ss_cons (s_setO 5 S__law_bent_move.nd (o_lst (DL.pa_cons (p_tup (DL.pa_cons p_str (DL.pa_cons (POD.d (o_cat (POD.d (o_cat (POD.d (oSliceB ((p_var 2)).bo x_none (x_some (p_var 3)))) (POD.d (o_lst (DL.pa_cons (p_var 4) DL.pa_nil))))) (POD.d (oSliceB ((p_var 2)).bo (x_some (p_bin op_addI (p_var 3) p_int)) x_none)))) DL.pa_nil))) (DL.pa_cons (p_tup (DL.pa_cons p_str (DL.pa_cons (p_type ca_tup Z.fr_tuple (DL.pa_cons (POD.d (o_cat (POD.d (o_cat (POD.d (oSliceB ((p_var 2)).bo x_none (x_some (p_var 3)))) (POD.d (o_lst (DL.pa_cons (p_var 4) DL.pa_nil))))) (POD.d (oSliceB ((p_var 2)).bo (x_some (p_bin op_addI (p_var 3) p_int)) x_none)))) DL.pa_nil)) DL.pa_nil))) (DL.pa_cons (p_tup (DL.pa_cons p_str (DL.pa_cons (p_var 4) DL.pa_nil))) (DL.pa_cons (p_tup (DL.pa_cons p_str (DL.pa_cons p_int DL.pa_nil))) DL.pa_nil)))))) (ss_cons (s_ext 5 (POD.d (o_lst (DL.pa_cons (p_tup (DL.pa_cons p_str (DL.pa_cons (POD.d (o_cat (p_var 2) (POD.d (o_lst (DL.pa_cons p_int DL.pa_nil))))) DL.pa_nil))) (DL.pa_cons (p_tup (DL.pa_cons p_str (DL.pa_cons (POD.d (oSliceB ((p_var 2)).bo (x_some p_int) x_none)) DL.pa_nil))) (DL.pa_cons (p_tup (DL.pa_cons p_str (DL.pa_cons (p_tup DL.pa_nil) DL.pa_nil))) (DL.pa_cons (p_tup (DL.pa_cons p_str (DL.pa_cons p_int DL.pa_nil))) (DL.pa_cons (p_tup (DL.pa_cons p_str (DL.pa_cons p_non DL.pa_nil))) (DL.pa_cons (p_tup (DL.pa_cons p_str (DL.pa_cons (p_bin op_subI (p_var 1) p_int) DL.pa_nil))) (DL.pa_cons (p_tup (DL.pa_cons p_str (DL.pa_cons (POD.d (o_lst (DL.pa_cons p_int DL.pa_nil))) DL.pa_nil))) (DL.pa_cons (p_tup (DL.pa_cons p_str DL.pa_nil)) DL.pa_nil))))))))))) (ss_cons (s_ext 5 (POD.d (o_lst (DL.pa_cons (p_tup (DL.pa_cons p_str (DL.pa_cons (p_var 2) DL.pa_nil))) (DL.pa_cons (p_tup (DL.pa_cons p_str (DL.pa_cons (p_var 2) DL.pa_nil))) (DL.pa_cons (p_tup (DL.pa_cons p_str (DL.pa_cons (p_var 2) DL.pa_nil))) (DL.pa_cons (p_tup (DL.pa_cons p_str (DL.pa_cons p_int DL.pa_nil))) (DL.pa_cons (p_tup (DL.pa_cons p_non (DL.pa_cons (p_var 2) DL.pa_nil))) (DL.pa_cons (p_tup (DL.pa_cons p_int (DL.pa_cons (p_var 2) DL.pa_nil))) (DL.pa_cons (POD.d (o_lst (DL.pa_cons p_str (DL.pa_cons (p_var 2) DL.pa_nil)))) (DL.pa_cons (p_tup (DL.pa_cons p_str (DL.pa_cons (p_var 2) (DL.pa_cons p_int DL.pa_nil)))) (DL.pa_cons (p_tup (DL.pa_cons p_str DL.pa_nil)) DL.pa_nil)))))))))))) (ss_frz 5 (ss_one (s_ret (p_call F__law_pick (hr.mono (by decide)) (fun (z : false = true) => nomatch z) (Z.glo__law_pick) hk__law_pick hb__law_pick (DL.pa_cons (p_var 0) (DL.pa_cons (POD.d (o_cat (p_var 5) (POD.d (o_lst (DL.pa_cons p_non (DL.pa_cons p_str (DL.pa_cons p_int (DL.pa_cons (p_tup DL.pa_nil) (DL.pa_cons (POD.d (o_lst DL.pa_nil)) (DL.pa_cons p_ed (DL.pa_cons (p_tup (DL.pa_cons (p_var 2) (DL.pa_cons p_str DL.pa_nil))) (DL.pa_cons (p_tup (DL.pa_cons p_str (DL.pa_cons (p_type ca_tup Z.fr_tuple (DL.pa_cons (p_var 2) DL.pa_nil)) DL.pa_nil))) (DL.pa_cons (p_tup (DL.pa_cons p_str (DL.pa_cons p_ed DL.pa_nil))) DL.pa_nil))))))))))))) DL.pa_nil)))))))))))
theorem w__law_bent_move {P : Program} {w : World} {K : Fr'} {mg : Str → Option Value} {base : Heap} (Z : Zx P w K mg base) : ∃ fd, FnD false P w K mg base 4 (He.ga K "_law_bent_move") fd ["pot", "prime"] (spD K (csK K) 2 d__law_bent_move) ∧ True ∧ PySem.W.keepIn K (.ref (He.ga K "_law_bent_move")) = true ∧ Binds K fd ["pot", "prime"] [] ∧ True := by
  obtain ⟨fd, D⟩ := Z.says.def_ 46 (d := z__law_bent_move)
  refine ⟨fd, fn_d (N := N__law_bent_move) D S__law_bent_move fun cdv A outer s H E hr hg => b__law_bent_move Z cdv A outer s H E hr hg, trivial, D.kp, D.bindsN (fun _ _ _ _ _ _ us hl => match us, hl with
    | [a0, a1], _ => rfl), trivial⟩
/-! _law_bent_play -/
def N__law_bent_play : List Str := ["pot", "prime", "play", "at", "move"]
theorem S__law_bent_play : FnScope N__law_bent_play ["pot", "prime", "play"] (defScope (top 62)) := ⟨rfl, rfl, rfl, by decide +kernel, rfl, by decide +kernel, by decide +kernel⟩
def m__law_bent_play : MS := (mSeq (mSet 3 (mCall (lenM 2 d__law_draw) (mCons (mVar 0) (mCons (mBin dAddI (mCall cLen (mCons (mVar 2) mNil)) (mC (.int 1))) mNil)))) (mSeq (mSet 4 (mCall (lenM 2 d__law_bent_move) (mCons (mVar 0) (mCons (mVar 1) mNil)))) (mRet (mCall (lenM 2 d__law_pick) (mCons (mVar 0) (mCons (mLst (mNew (mCons (mLst (oCat (mLst (oCat (mLst (oSlice (mVar 2) mNoP (mPart (mVar 3)))) (mLst (mNew (mCons (mVar 4) mNil))))) (mLst (oSlice (mVar 2) (mPart (mVar 3)) mNoP)))) (mCons (mLst (oCat (mLst (oCat (mLst (oSlice (mVar 2) mNoP (mPart (mVar 3)))) (mLst (mNew (mCons (mVar 4) mNil))))) (mLst (oSlice (mVar 2) (mPart (mBin dAddI (mVar 3) (mC (.int 1)))) mNoP)))) (mCons (mCall cTup (mCons (mLst (oCat (mLst (oSlice (mVar 2) mNoP (mPart (mVar 3)))) (mLst (mNew (mCons (mVar 4) mNil))))) mNil)) (mCons (mLst (mNew (mCons (mVar 4) mNil))) (mCons (mLst (mNew (mCons (mVar 2) mNil))) mNil))))))) mNil))))))
def d__law_bent_play : List D → Mo D := runD 5 m__law_bent_play
theorem b__law_bent_play {P : Program} {w : World} {K : Fr'} {mg : Str → Option Value} {base : Heap} (Z : Zx P w K mg base) (cdv : Value) (A : Around) (outer : List Env) (s : Shared) (H : Hp) (E : XK) (hr : Room 4 (A.deeper (envOfC "_law_bent_play" (defScope (top 62)) s.heap.objs.size (He.ga K "_law_bent_play") cdv))) (hg : false = true → A.guards = some []) :
    PSsD (csK K) (cx0 P w K mg base N__law_bent_play "_law_bent_play" (defScope (top 62)) (He.ga K "_law_bent_play") cdv A outer s H E) (defBody (top 62)) m__law_bent_play := by
  obtain ⟨fd__law_bent_move, F__law_bent_move, FO__law_bent_move, hk__law_bent_move, hb__law_bent_move, _⟩ := w__law_bent_move Z
  obtain ⟨fd__law_draw, F__law_draw, FO__law_draw, hk__law_draw, hb__law_draw, _⟩ := w__law_draw Z
  obtain ⟨fd__law_pick, F__law_pick, FO__law_pick, hk__law_pick, hb__law_pick, _⟩ := w__law_pick Z
  exact (ss_cons (s_set 3 S__law_bent_play.nd (p_call F__law_draw (hr.mono (by decide)) (fun (z : false = true) => nomatch z) (Z.glo__law_draw) hk__law_draw hb__law_draw (DL.pa_cons (p_var 0) (DL.pa_cons (p_bin op_addI (p_bltn ca_len Z.fr_len (DL.pa_cons (p_var 2) DL.pa_nil)) p_int) DL.pa_nil)))) (ss_cons (s_set 4 S__law_bent_play.nd (p_call F__law_bent_move (hr.mono (by decide)) (fun (z : false = true) => nomatch z) (Z.glo__law_bent_move) hk__law_bent_move hb__law_bent_move (DL.pa_cons (p_var 0) (DL.pa_cons (p_var 1) DL.pa_nil)))) (ss_one (s_ret (p_call F__law_pick (hr.mono (by decide)) (fun (z : false = true) => nomatch z) (Z.glo__law_pick) hk__law_pick hb__law_pick (DL.pa_cons (p_var 0) (DL.pa_cons (POD.d (o_lst (DL.pa_cons (POD.d (o_cat (POD.d (o_cat (POD.d (oSliceB ((p_var 2)).bo x_none (x_some (p_var 3)))) (POD.d (o_lst (DL.pa_cons (p_var 4) DL.pa_nil))))) (POD.d (oSliceB ((p_var 2)).bo (x_some (p_var 3)) x_none)))) (DL.pa_cons (POD.d (o_cat (POD.d (o_cat (POD.d (oSliceB ((p_var 2)).bo x_none (x_some (p_var 3)))) (POD.d (o_lst (DL.pa_cons (p_var 4) DL.pa_nil))))) (POD.d (oSliceB ((p_var 2)).bo (x_some (p_bin op_addI (p_var 3) p_int)) x_none)))) (DL.pa_cons (p_type ca_tup Z.fr_tuple (DL.pa_cons (POD.d (o_cat (POD.d (oSliceB ((p_var 2)).bo x_none (x_some (p_var 3)))) (POD.d (o_lst (DL.pa_cons (p_var 4) DL.pa_nil))))) DL.pa_nil)) (DL.pa_cons (POD.d (o_lst (DL.pa_cons (p_var 4) DL.pa_nil))) (DL.pa_cons (POD.d (o_lst (DL.pa_cons (p_var 2) DL.pa_nil))) DL.pa_nil))))))) DL.pa_nil)))))))
theorem w__law_bent_play {P : Program} {w : World} {K : Fr'} {mg : Str → Option Value} {base : Heap} (Z : Zx P w K mg base) : ∃ fd, FnD false P w K mg base 5 (He.ga K "_law_bent_play") fd ["pot", "prime", "play"] (spD K (csK K) 3 d__law_bent_play) ∧ True ∧ PySem.W.keepIn K (.ref (He.ga K "_law_bent_play")) = true ∧ Binds K fd ["pot", "prime", "play"] [] ∧ True := by
  obtain ⟨fd, D⟩ := Z.says.def_ 47 (d := z__law_bent_play)
  refine ⟨fd, fn_d (N := N__law_bent_play) D S__law_bent_play fun cdv A outer s H E hr hg => b__law_bent_play Z cdv A outer s H E hr hg, trivial, D.kp, D.bindsN (fun _ _ _ _ _ _ us hl => match us, hl with
    | [a0, a1, a2], _ => rfl), trivial⟩
/-! _law_deals_right -/
def N__law_deals_right : List Str := ["pot", "prime", "whole", "deal", "at", "other", "odd", "values", "value", "due", "shown", "told", "spot"]
theorem S__law_deals_right : FnScope N__law_deals_right ["pot", "prime"] (defScope (top 63)) := ⟨rfl, rfl, rfl, by decide +kernel, rfl, by decide +kernel, by decide +kernel⟩
def m__law_deals_right : MS := (mSeq (mSet 2 (mBin dMulI (mVar 1) (mVar 1))) (mSeq (mSet 3 (mLst (mCallO (lenO 2 o__law_mixed) (mCons (mVar 0) (mCons (mLst (oRg1 (mVar 2))) mNil))))) (mSeq (mPar 4 5 (mCons (mCall (lenM 2 d__law_draw) (mCons (mVar 0) (mCons (mVar 2) mNil))) (mCons (mCall (lenM 2 d__law_draw) (mCons (mVar 0) (mCons (mVar 2) mNil))) mNil))) (mSeq (mSet 6 (mCall (lenM 2 d__law_pick) (mCons (mVar 0) (mCons (mLst (mNew (mCons (mC (.bl true)) (mCons (mC (.bl false)) (mCons (mC .non) (mCons (mC (.str "0")) (mCons (mUn dNegI (mC (.int 1))) (mCons (mVar 2) (mCons (mBin dPowI (mC (.int 10)) (mC (.int 20))) (mCons (mLst (mNew (mCons (mC (.int 0)) mNil))) (mCons (mTup (mCons (mC (.int 0)) mNil)) (mCons (mC .ed) (mCons (mCall (mk_Ratio_1 d_Ratio___init__) (mCons (mBin atD (mVar 3) (mVar 4)) mNil)) mNil))))))))))))) mNil)))) (mSeq (mSetO 7 (mNew (mCons (mVar 3) (mCons (mCall cTup (mCons (mVar 3) mNil)) (mCons (mLst (oRev (mVar 3))) (mCons (mLst (oRg1 (mVar 2))) (mCons (mLst (oCat (mLst (oSlice (mVar 3) mNoP (mPart (mVar 4)))) (mLst (oSlice (mVar 3) (mPart (mBin dAddI (mVar 4) (mC (.int 1)))) mNoP)))) (mCons (mLst (oCat (mLst (oSlice (mVar 3) mNoP (mPart (mBin dAddI (mVar 4) (mC (.int 1)))))) (mLst (oSlice (mVar 3) (mPart (mVar 4)) mNoP)))) mNil)))))))) (mSeq (mExt 7 (mLst (mNew (mCons (mLst (oCat (mLst (oCat (mLst (oSlice (mVar 3) mNoP (mPart (mVar 4)))) (mLst (mNew (mCons (mVar 6) mNil))))) (mLst (oSlice (mVar 3) (mPart (mBin dAddI (mVar 4) (mC (.int 1)))) mNoP)))) (mCons (mCall cTup (mCons (mLst (oCat (mLst (oCat (mLst (oSlice (mVar 3) mNoP (mPart (mVar 4)))) (mLst (mNew (mCons (mVar 6) mNil))))) (mLst (oSlice (mVar 3) (mPart (mBin dAddI (mVar 4) (mC (.int 1)))) mNoP)))) mNil)) (mCons (mLst (oCat (mVar 3) (mLst (mNew (mCons (mVar 6) mNil))))) (mCons (mLst (oCat (mVar 3) (mLst (mNew (mCons (mVar 2) mNil))))) mNil))))))) (mSeq (mExt 7 (mLst (mNew (mCons (mLst (mLc (srcL (mVar 3)) [12] (tgN 12) mYes (mIf (mB (mBin (dEqF false) (mVar 12) (mC (.int 1)))) (mC (.bl true)) (mVar 12)))) (mCons (mLst (mLc (srcL (mVar 3)) [12] (tgN 12) mYes (mIf (mB (mBin (dEqF false) (mVar 12) (mC (.int 0)))) (mC (.bl false)) (mVar 12)))) mNil))))) (mSeq (mExt 7 (mLst (mNew (mCons (mLst (oCat (mLst (oCat (mLst (oSlice (mVar 3) mNoP (mPart (mVar 4)))) (mLst (mNew (mCons (mBin atD (mVar 3) (mVar 5)) mNil))))) (mLst (oSlice (mVar 3) (mPart (mBin dAddI (mVar 4) (mC (.int 1)))) mNoP)))) (mCons (mLst (mLc (srcL (mVar 3)) [12] (tgN 12) mYes (mBin dAddI (mVar 12) (mC (.int 1))))) (mCons (mLst (mLc (srcL (mVar 3)) [12] (tgN 12) mYes (mBin dSubI (mVar 12) (mC (.int 1))))) (mCons (mLst (mNew (mCons (mVar 3) mNil))) mNil))))))) (mSeq (mExt 7 (mLst (mNew (mCons (mC .non) (mCons (mC (.int 0)) (mCons (mC (.str "")) (mCons (mC (.str "0")) (mCons (mC .ed) (mCons (mLst (mNew mNil)) (mCons (mTup mNil) (mCons (mC (.bl true)) (mCons (mLst (oRg1 (mVar 1))) (mCons (mLst (oRg1 (mC (.int 9)))) (mCons (mTup (oRg1 (mC (.int 25)))) (mCons (mLst (oRg1 (mC (.int 49)))) mNil))))))))))))))) (mFrz 7 (mSeq (mFor (srcL (mVar 7)) (tgN 8) (mSeq (mPar 9 10 (mCons (mCall (lenM 2 d__law_is_deal) (mCons (mVar 1) (mCons (mVar 8) mNil))) (mCons (mCall cReprU (mCons (mVar 8) mNil)) mNil))) (mSeq (mSet 11 (mLst (mNew (mCons (mCall (lenM 2 d_is_deal) (mCons (mVar 1) (mCons (mVar 8) mNil))) (mCons (mCall (pickM 2 [1, 0] d_is_deal) (mCons (mVar 8) (mCons (mVar 1) mNil))) mNil))))) (mIfS (mOr (mB (mBin (dEqF true) (mCall cReprU (mCons (mVar 11) mNil)) (mCall cReprU (mCons (mLst (mNew (mCons (mVar 9) (mCons (mVar 9) mNil)))) mNil)))) (mB (mBin (dEqF true) (mCall cReprU (mCons (mVar 8) mNil)) (mVar 10)))) (mRet (mC (.bl false))) mNx)))) (mRet (mC (.bl true))))))))))))))
def d__law_deals_right : List D → Mo D := runD 13 m__law_deals_right
theorem b__law_deals_right {P : Program} {w : World} {K : Fr'} {mg : Str → Option Value} {base : Heap} (Z : Zx P w K mg base) (cdv : Value) (A : Around) (outer : List Env) (s : Shared) (H : Hp) (E : XK) (hr : Room 8 (A.deeper (envOfC "_law_deals_right" (defScope (top 63)) s.heap.objs.size (He.ga K "_law_deals_right") cdv))) (hg : true = true → A.guards = some []) :
    PSsD (csK K) (cx0 P w K mg base N__law_deals_right "_law_deals_right" (defScope (top 63)) (He.ga K "_law_deals_right") cdv A outer s H E) (defBody (top 63)) m__law_deals_right := by
  obtain ⟨fd__law_draw, F__law_draw, FO__law_draw, hk__law_draw, hb__law_draw, _⟩ := w__law_draw Z
  obtain ⟨fd__law_is_deal, F__law_is_deal, FO__law_is_deal, hk__law_is_deal, hb__law_is_deal, _⟩ := w__law_is_deal Z
  obtain ⟨fd__law_mixed, F__law_mixed, FO__law_mixed, hk__law_mixed, hb__law_mixed, _⟩ := w__law_mixed Z
  obtain ⟨fd__law_pick, F__law_pick, FO__law_pick, hk__law_pick, hb__law_pick, _⟩ := w__law_pick Z
  obtain ⟨fd_is_deal, F_is_deal, FO_is_deal, hk_is_deal, hb_is_deal, kw_is_deal_0, _⟩ := w_is_deal Z
  exact (ss_cons (s_set 2 S__law_deals_right.nd (p_bin op_mulI (p_var 1) (p_var 1))) (ss_cons (s_set 3 S__law_deals_right.nd (POD.d (p_callO FO__law_mixed (hr.mono (by decide)) (fun (z : false = true) => nomatch z) (Z.glo__law_mixed) hk__law_mixed hb__law_mixed (DL.pa_cons (p_var 0) (DL.pa_cons (POD.d (o_listRg1 rfl Z.fr_list Z.fr_range (p_var 2))) DL.pa_nil))))) (ss_cons (s_par 4 5 rfl S__law_deals_right.nd (DL.pa_cons (p_call F__law_draw (hr.mono (by decide)) (fun (z : false = true) => nomatch z) (Z.glo__law_draw) hk__law_draw hb__law_draw (DL.pa_cons (p_var 0) (DL.pa_cons (p_var 2) DL.pa_nil))) (DL.pa_cons (p_call F__law_draw (hr.mono (by decide)) (fun (z : false = true) => nomatch z) (Z.glo__law_draw) hk__law_draw hb__law_draw (DL.pa_cons (p_var 0) (DL.pa_cons (p_var 2) DL.pa_nil))) DL.pa_nil)) rfl) (ss_cons (s_set 6 S__law_deals_right.nd (p_call F__law_pick (hr.mono (by decide)) (fun (z : false = true) => nomatch z) (Z.glo__law_pick) hk__law_pick hb__law_pick (DL.pa_cons (p_var 0) (DL.pa_cons (POD.d (o_lst (DL.pa_cons p_bl (DL.pa_cons p_bl (DL.pa_cons p_non (DL.pa_cons p_str (DL.pa_cons (p_neg p_int) (DL.pa_cons (p_var 2) (DL.pa_cons (p_bin op_powI p_int p_int) (DL.pa_cons (POD.d (o_lst (DL.pa_cons p_int DL.pa_nil))) (DL.pa_cons (p_tup (DL.pa_cons p_int DL.pa_nil)) (DL.pa_cons p_ed (DL.pa_cons (mkW_Ratio_1 Z (hr.mono (by decide)) (DL.pa_cons (p_ix (p_var 3) (p_var 4)) DL.pa_nil)) DL.pa_nil))))))))))))) DL.pa_nil)))) (ss_cons (s_setO 7 S__law_deals_right.nd (o_lst (DL.pa_cons (p_var 3) (DL.pa_cons (p_type ca_tup Z.fr_tuple (DL.pa_cons (p_var 3) DL.pa_nil)) (DL.pa_cons (POD.d (oRevB ((p_var 3)).bo)) (DL.pa_cons (POD.d (o_listRg1 rfl Z.fr_list Z.fr_range (p_var 2))) (DL.pa_cons (POD.d (o_cat (POD.d (oSliceB ((p_var 3)).bo x_none (x_some (p_var 4)))) (POD.d (oSliceB ((p_var 3)).bo (x_some (p_bin op_addI (p_var 4) p_int)) x_none)))) (DL.pa_cons (POD.d (o_cat (POD.d (oSliceB ((p_var 3)).bo x_none (x_some (p_bin op_addI (p_var 4) p_int)))) (POD.d (oSliceB ((p_var 3)).bo (x_some (p_var 4)) x_none)))) DL.pa_nil)))))))) (ss_cons (s_ext 7 (POD.d (o_lst (DL.pa_cons (POD.d (o_cat (POD.d (o_cat (POD.d (oSliceB ((p_var 3)).bo x_none (x_some (p_var 4)))) (POD.d (o_lst (DL.pa_cons (p_var 6) DL.pa_nil))))) (POD.d (oSliceB ((p_var 3)).bo (x_some (p_bin op_addI (p_var 4) p_int)) x_none)))) (DL.pa_cons (p_type ca_tup Z.fr_tuple (DL.pa_cons (POD.d (o_cat (POD.d (o_cat (POD.d (oSliceB ((p_var 3)).bo x_none (x_some (p_var 4)))) (POD.d (o_lst (DL.pa_cons (p_var 6) DL.pa_nil))))) (POD.d (oSliceB ((p_var 3)).bo (x_some (p_bin op_addI (p_var 4) p_int)) x_none)))) DL.pa_nil)) (DL.pa_cons (POD.d (o_cat (p_var 3) (POD.d (o_lst (DL.pa_cons (p_var 6) DL.pa_nil))))) (DL.pa_cons (POD.d (o_cat (p_var 3) (POD.d (o_lst (DL.pa_cons (p_var 2) DL.pa_nil))))) DL.pa_nil))))))) (ss_cons (s_ext 7 (POD.d (o_lst (DL.pa_cons (POD.d (o_lc [("spot", 12)] rfl S__law_deals_right.nd (blkOk_by rfl) ((i_list (p_var 3))).j (fun _ _ _ _ _ => (g_name 12 S__law_deals_right.nd)) (fun _ _ _ _ _ => ts_nil) (fun _ _ _ _ _ => (p_if (pt_cmp (op_eqF false) (p_var 12) p_int rfl) p_bl (p_var 12))))) (DL.pa_cons (POD.d (o_lc [("spot", 12)] rfl S__law_deals_right.nd (blkOk_by rfl) ((i_list (p_var 3))).j (fun _ _ _ _ _ => (g_name 12 S__law_deals_right.nd)) (fun _ _ _ _ _ => ts_nil) (fun _ _ _ _ _ => (p_if (pt_cmp (op_eqF false) (p_var 12) p_int rfl) p_bl (p_var 12))))) DL.pa_nil))))) (ss_cons (s_ext 7 (POD.d (o_lst (DL.pa_cons (POD.d (o_cat (POD.d (o_cat (POD.d (oSliceB ((p_var 3)).bo x_none (x_some (p_var 4)))) (POD.d (o_lst (DL.pa_cons (p_ix (p_var 3) (p_var 5)) DL.pa_nil))))) (POD.d (oSliceB ((p_var 3)).bo (x_some (p_bin op_addI (p_var 4) p_int)) x_none)))) (DL.pa_cons (POD.d (o_lc [("spot", 12)] rfl S__law_deals_right.nd (blkOk_by rfl) ((i_list (p_var 3))).j (fun _ _ _ _ _ => (g_name 12 S__law_deals_right.nd)) (fun _ _ _ _ _ => ts_nil) (fun _ _ _ _ _ => (p_bin op_addI (p_var 12) p_int)))) (DL.pa_cons (POD.d (o_lc [("spot", 12)] rfl S__law_deals_right.nd (blkOk_by rfl) ((i_list (p_var 3))).j (fun _ _ _ _ _ => (g_name 12 S__law_deals_right.nd)) (fun _ _ _ _ _ => ts_nil) (fun _ _ _ _ _ => (p_bin op_subI (p_var 12) p_int)))) (DL.pa_cons (POD.d (o_lst (DL.pa_cons (p_var 3) DL.pa_nil))) DL.pa_nil))))))) (ss_cons (s_ext 7 (POD.d (o_lst (DL.pa_cons p_non (DL.pa_cons p_int (DL.pa_cons p_str (DL.pa_cons p_str (DL.pa_cons p_ed (DL.pa_cons (POD.d (o_lst DL.pa_nil)) (DL.pa_cons (p_tup DL.pa_nil) (DL.pa_cons p_bl (DL.pa_cons (POD.d (o_listRg1 rfl Z.fr_list Z.fr_range (p_var 1))) (DL.pa_cons (POD.d (o_listRg1 rfl Z.fr_list Z.fr_range p_int)) (DL.pa_cons (p_tupRg1 rfl Z.fr_tuple Z.fr_range p_int) (DL.pa_cons (POD.d (o_listRg1 rfl Z.fr_list Z.fr_range p_int)) DL.pa_nil))))))))))))))) (ss_frz 7 (ss_cons (s_for PassesOwn.never rfl (i_list (p_var 7)) (g_name 8 S__law_deals_right.nd) (ss_cons (s_par 9 10 rfl S__law_deals_right.nd (DL.pa_cons (p_call F__law_is_deal (hr.mono (by decide)) (fun (z : false = true) => nomatch z) (Z.glo__law_is_deal) hk__law_is_deal hb__law_is_deal (DL.pa_cons (p_var 1) (DL.pa_cons (p_var 8) DL.pa_nil))) (DL.pa_cons (p_bltn (ca_reprU Z (hr.mono (by decide)) (hg rfl)) Z.fr_repr (DL.pa_cons (p_var 8) DL.pa_nil)) DL.pa_nil)) rfl) (ss_cons (s_set 11 S__law_deals_right.nd (POD.d (o_lst (DL.pa_cons (p_call F_is_deal (hr.mono (by decide)) (fun (z : false = true) => nomatch z) (Z.glo_is_deal) hk_is_deal hb_is_deal (DL.pa_cons (p_var 1) (DL.pa_cons (p_var 8) DL.pa_nil))) (DL.pa_cons (p_callK (ks := ["value", "prime"]) (ix := [1, 0]) F_is_deal (hr.mono (by decide)) (fun (z : false = true) => nomatch z) (Z.glo_is_deal) hk_is_deal kw_is_deal_0 (k_cons (p_var 8) (k_cons (p_var 1) k_nil))) DL.pa_nil))))) (ss_one (s_if (PWD.pt (DL.pw_or (pt_cmp (op_eqF true) (p_bltn (ca_reprU Z (hr.mono (by decide)) (hg rfl)) Z.fr_repr (DL.pa_cons (p_var 11) DL.pa_nil)) (p_bltn (ca_reprU Z (hr.mono (by decide)) (hg rfl)) Z.fr_repr (DL.pa_cons (POD.d (o_lst (DL.pa_cons (p_var 9) (DL.pa_cons (p_var 9) DL.pa_nil)))) DL.pa_nil)) rfl) (pw_one (pt_cmp (op_eqF true) (p_bltn (ca_reprU Z (hr.mono (by decide)) (hg rfl)) Z.fr_repr (DL.pa_cons (p_var 8) DL.pa_nil)) (p_var 10) rfl)))) (ss_one (s_ret p_bl)) ss_nil))))) (ss_one (s_ret p_bl)))))))))))))
theorem w__law_deals_right {P : Program} {w : World} {K : Fr'} {mg : Str → Option Value} {base : Heap} (Z : Zx P w K mg base) : ∃ fd, FnD true P w K mg base 9 (He.ga K "_law_deals_right") fd ["pot", "prime"] (spD K (csK K) 2 d__law_deals_right) ∧ True ∧ PySem.W.keepIn K (.ref (He.ga K "_law_deals_right")) = true ∧ Binds K fd ["pot", "prime"] [] ∧ True := by
  obtain ⟨fd, D⟩ := Z.says.def_ 48 (d := z__law_deals_right)
  refine ⟨fd, fn_d (N := N__law_deals_right) D S__law_deals_right fun cdv A outer s H E hr hg => b__law_deals_right Z cdv A outer s H E hr hg, trivial, D.kp, D.bindsN (fun _ _ _ _ _ _ us hl => match us, hl with
    | [a0, a1], _ => rfl), trivial⟩
/-! _law_plays_right -/
def N__law_plays_right : List Str := ["pot", "prime", "play", "deal", "at", "far", "other", "late", "told", "values", "value", "is_good", "shown", "own", "dealt", "due", "turn", "move"]
theorem S__law_plays_right : FnScope N__law_plays_right ["pot", "prime"] (defScope (top 64)) := ⟨rfl, rfl, rfl, by decide +kernel, rfl, by decide +kernel, by decide +kernel⟩
def m__law_plays_right : MS := (mSeq (mSetO 2 (mLc (srcR1 (mCons (mCall (lenM 2 d__law_draw) (mCons (mVar 0) (mCons (mC (.int 9)) mNil))) mNil)) [16] (tgN 16) mYes (mCall (lenM 2 d__law_move) (mCons (mVar 0) (mCons (mVar 1) mNil))))) (mFrz 2 (mSeq (mPar3 3 4 5 (mCons (mLst (mCallO (lenO 2 o__law_played) (mCons (mVar 1) (mCons (mVar 2) mNil)))) (mCons (mCall (lenM 2 d__law_draw) (mCons (mVar 0) (mCons (mBin dMulI (mVar 1) (mVar 1)) mNil))) (mCons (mBin dAddI (mC (.int 1)) (mCall (lenM 2 d__law_draw) (mCons (mVar 0) (mCons (mBin dSubI (mBin dMulI (mVar 1) (mVar 1)) (mC (.int 1))) mNil)))) mNil)))) (mSeq (mParOV 6 7 (mCallO oListC (mCons (mVar 3) mNil)) (mBin dModI (mCall cInt (mCons (mBin dAddI (mVar 4) (mVar 5)) mNil)) (mBin dMulI (mVar 1) (mVar 1)))) (mSeq (mSwap 6 4 7 (mTup (mCons (mBin atD (mVar 3) (mVar 7)) (mCons (mBin atD (mVar 3) (mVar 4)) mNil)))) (mFrz 2 (mSeq (mSet 8 (mLst (mNew (mCons (mCall (lenM 2 d_play_deal) (mCons (mVar 1) (mCons (mLst (mCallO oListC (mCons (mVar 2) mNil))) mNil))) (mCons (mCall (pickM 2 [1, 0] d_play_deal) (mCons (mCall cTup (mCons (mVar 2) mNil)) (mCons (mVar 1) mNil))) mNil))))) (mSeq (mIfS (mB (mBin (dEqU true) (mCall cReprU (mCons (mVar 8) mNil)) (mCall cReprU (mCons (mLst (mNew (mCons (mVar 3) (mCons (mVar 3) mNil)))) mNil)))) (mRet (mC (.bl false))) mNx) (mFrz 2 (mSeq (mSetO 9 (mNew (mCons (mVar 2) (mCons (mCall cTup (mCons (mVar 2) mNil)) (mCons (mLst (oRev (mVarB 2))) (mCons (mLst (oSlice (mVarB 2) mNoP (mPart (mUn dNegI (mC (.int 1)))))) (mCons (mLst (oCat (mVar 2) (mLst (oSlice (mVarB 2) mNoP (mPart (mC (.int 1))))))) (mCons (mLst (mNew mNil)) (mCons (mTup mNil) (mCons (mC .non) (mCons (mC (.int 0)) (mCons (mC (.str "")) (mCons (mC (.str "y")) (mCons (mC .ed) (mCons (mC (.bl true)) (mCons (mLst (mNew (mCons (mC .non) mNil))) mNil)))))))))))))))) (mFrz 2 (mSeq (mExt 9 (mLst (mNew (mCons (mLst (oCat (mVar 2) (mLst (mLc (srcL (mLst (oRev (mVarB 2)))) [17] (tgN 17) mYes (mCall (lenM 2 d__law_undone) (mCons (mVar 1) (mCons (mVar 17) mNil))))))) (mCons (mLst (oCat (mVar 2) (mLst (mNew (mCons (mTup (mCons (mC (.str "turn")) (mCons (mC (.int 1)) mNil))) (mCons (mTup (mCons (mC (.str "x")) (mCons (mLst (oRep (mLst (mNew (mCons (mC (.int 0)) mNil))) (mVar 1))) mNil))) mNil)))))) mNil))))) (mFrz 9 (mFrz 2 (mSeq (mFor (srcL (mLst (oCat (mVar 9) (mLst (mLc (srcR1 (mCons (mC (.int 14)) mNil)) [16] (tgN 16) mYes (mCall (lenM 3 d__law_bent_play) (mCons (mVar 0) (mCons (mVar 1) (mCons (mVar 2) mNil))))))))) (tgN 10) (mSeq (mPar 11 12 (mCons (mCall (lenM 2 d__law_is_play) (mCons (mVar 1) (mCons (mVar 10) mNil))) (mCons (mCall cReprU (mCons (mVar 10) mNil)) mNil))) (mSeq (mIfS (mB (mBin (dEqU true) (mCall cReprU (mCons (mLst (mNew (mCons (mCall (lenM 2 d_is_play) (mCons (mVar 1) (mCons (mVar 10) mNil))) (mCons (mCall (pickM 2 [1, 0] d_is_play) (mCons (mVar 10) (mCons (mVar 1) mNil))) mNil)))) mNil)) (mCall cReprU (mCons (mLst (mNew (mCons (mVar 11) (mCons (mVar 11) mNil)))) mNil)))) (mRet (mC (.bl false))) mNx) (mSeq (mSet 13 (mIf (mB (mVar 11)) (mLst (mCallO (lenO 2 o__law_played) (mCons (mVar 1) (mCons (mVar 10) mNil)))) (mC .non))) (mFrz 6 (mSeq (mFor (srcL (mLst (mNew (mCons (mVar 3) (mCons (mVar 6) (mCons (mLst (oRg1 (mBin dMulI (mVar 1) (mVar 1)))) mNil)))))) (tgN 14) (mSeq (mSet 15 (mTV (mAnd (mB (mVar 11)) (mB (mBin (dEqU false) (mVar 13) (mVar 14)))))) (mSeq (mSet 8 (mLst (mNew (mCons (mCall (lenM 3 d_is_play_for) (mCons (mVar 1) (mCons (mLst (mCallO oListC (mCons (mVar 14) mNil))) (mCons (mVar 10) mNil)))) (mCons (mCall (pickM 3 [2, 1, 0] d_is_play_for) (mCons (mVar 10) (mCons (mCall cTup (mCons (mVar 14) mNil)) (mCons (mVar 1) mNil)))) mNil))))) (mIfS (mB (mBin (dEqU true) (mCall cReprU (mCons (mVar 8) mNil)) (mCall cReprU (mCons (mLst (mNew (mCons (mVar 15) (mCons (mVar 15) mNil)))) mNil)))) (mRet (mC (.bl false))) mNx)))) (mIfS (mB (mBin (dEqU true) (mCall cReprU (mCons (mVar 10) mNil)) (mVar 12))) (mRet (mC (.bl false))) mNx))))))) (mRet (mC (.bl true))))))))))))))))))
def d__law_plays_right : List D → Mo D := runD 18 m__law_plays_right
theorem b__law_plays_right {P : Program} {w : World} {K : Fr'} {mg : Str → Option Value} {base : Heap} (Z : Zx P w K mg base) (cdv : Value) (A : Around) (outer : List Env) (s : Shared) (H : Hp) (E : XK) (hr : Room 9 (A.deeper (envOfC "_law_plays_right" (defScope (top 64)) s.heap.objs.size (He.ga K "_law_plays_right") cdv))) (hg : true = true → A.guards = some []) :
    PSsD (csK K) (cx0 P w K mg base N__law_plays_right "_law_plays_right" (defScope (top 64)) (He.ga K "_law_plays_right") cdv A outer s H E) (defBody (top 64)) m__law_plays_right := by
  obtain ⟨fd__law_bent_play, F__law_bent_play, FO__law_bent_play, hk__law_bent_play, hb__law_bent_play, _⟩ := w__law_bent_play Z
  obtain ⟨fd__law_draw, F__law_draw, FO__law_draw, hk__law_draw, hb__law_draw, _⟩ := w__law_draw Z
  obtain ⟨fd__law_is_play, F__law_is_play, FO__law_is_play, hk__law_is_play, hb__law_is_play, _⟩ := w__law_is_play Z
  obtain ⟨fd__law_move, F__law_move, FO__law_move, hk__law_move, hb__law_move, _⟩ := w__law_move Z
  obtain ⟨fd__law_played, F__law_played, FO__law_played, hk__law_played, hb__law_played, _⟩ := w__law_played Z
  obtain ⟨fd__law_undone, F__law_undone, FO__law_undone, hk__law_undone, hb__law_undone, _⟩ := w__law_undone Z
  obtain ⟨fd_is_play, F_is_play, FO_is_play, hk_is_play, hb_is_play, kw_is_play_0, _⟩ := w_is_play Z
  obtain ⟨fd_is_play_for, F_is_play_for, FO_is_play_for, hk_is_play_for, hb_is_play_for, kw_is_play_for_0, _⟩ := w_is_play_for Z
  obtain ⟨fd_play_deal, F_play_deal, FO_play_deal, hk_play_deal, hb_play_deal, kw_play_deal_0, _⟩ := w_play_deal Z
  exact (ss_cons (s_setO 2 S__law_plays_right.nd (o_lc [("turn", 16)] rfl S__law_plays_right.nd (blkOk_by rfl) ((i_range1 Z.fr_range (DL.pa_cons (p_call F__law_draw (hr.mono (by decide)) (fun (z : false = true) => nomatch z) (Z.glo__law_draw) hk__law_draw hb__law_draw (DL.pa_cons (p_var 0) (DL.pa_cons p_int DL.pa_nil))) DL.pa_nil))).j (fun _ _ _ _ _ => (g_name 16 S__law_plays_right.nd)) (fun _ _ _ _ _ => ts_nil) (fun _ _ _ _ _ => (p_call F__law_move (hr.mono (by decide)) (fun (z : false = true) => nomatch z) (Z.glo__law_move) hk__law_move hb__law_move (DL.pa_cons (p_var 0) (DL.pa_cons (p_var 1) DL.pa_nil)))))) (ss_frz 2 (ss_cons (s_par3 3 4 5 rfl S__law_plays_right.nd (DL.pa_cons (POD.d (p_callO FO__law_played (hr.mono (by decide)) (fun (z : false = true) => nomatch z) (Z.glo__law_played) hk__law_played hb__law_played (DL.pa_cons (p_var 1) (DL.pa_cons (p_var 2) DL.pa_nil)))) (DL.pa_cons (p_call F__law_draw (hr.mono (by decide)) (fun (z : false = true) => nomatch z) (Z.glo__law_draw) hk__law_draw hb__law_draw (DL.pa_cons (p_var 0) (DL.pa_cons (p_bin op_mulI (p_var 1) (p_var 1)) DL.pa_nil))) (DL.pa_cons (p_bin op_addI p_int (p_call F__law_draw (hr.mono (by decide)) (fun (z : false = true) => nomatch z) (Z.glo__law_draw) hk__law_draw hb__law_draw (DL.pa_cons (p_var 0) (DL.pa_cons (p_bin op_subI (p_bin op_mulI (p_var 1) (p_var 1)) p_int) DL.pa_nil)))) DL.pa_nil))) rfl) (ss_cons (s_parOV 6 7 rfl S__law_plays_right.nd (o_listOf Z.fr_list (DL.pa_cons (p_var 3) DL.pa_nil)) (p_bin op_modI (p_type ca_int Z.fr_int (DL.pa_cons (p_bin op_addI (p_var 4) (p_var 5)) DL.pa_nil)) (p_bin op_mulI (p_var 1) (p_var 1))) rfl) (ss_cons (s_swap 6 4 7 rfl (p_tup (DL.pa_cons (p_ix (p_var 3) (p_var 7)) (DL.pa_cons (p_ix (p_var 3) (p_var 4)) DL.pa_nil)))) (ss_frz 2 (ss_cons (s_set 8 S__law_plays_right.nd (POD.d (o_lst (DL.pa_cons (p_call F_play_deal (hr.mono (by decide)) (fun (z : false = true) => nomatch z) (Z.glo_play_deal) hk_play_deal hb_play_deal (DL.pa_cons (p_var 1) (DL.pa_cons (POD.d (o_listOf Z.fr_list (DL.pa_cons (p_var 2) DL.pa_nil))) DL.pa_nil))) (DL.pa_cons (p_callK (ks := ["play", "prime"]) (ix := [1, 0]) F_play_deal (hr.mono (by decide)) (fun (z : false = true) => nomatch z) (Z.glo_play_deal) hk_play_deal kw_play_deal_0 (k_cons (p_type ca_tup Z.fr_tuple (DL.pa_cons (p_var 2) DL.pa_nil)) (k_cons (p_var 1) k_nil))) DL.pa_nil))))) (ss_cons (s_if (pt_cmp (op_eqU Z (hr.mono (by decide)) true) (p_bltn (ca_reprU Z (hr.mono (by decide)) (hg rfl)) Z.fr_repr (DL.pa_cons (p_var 8) DL.pa_nil)) (p_bltn (ca_reprU Z (hr.mono (by decide)) (hg rfl)) Z.fr_repr (DL.pa_cons (POD.d (o_lst (DL.pa_cons (p_var 3) (DL.pa_cons (p_var 3) DL.pa_nil)))) DL.pa_nil)) rfl) (ss_one (s_ret p_bl)) ss_nil) (ss_frz 2 (ss_cons (s_setO 9 S__law_plays_right.nd (o_lst (DL.pa_cons (p_var 2) (DL.pa_cons (p_type ca_tup Z.fr_tuple (DL.pa_cons (p_var 2) DL.pa_nil)) (DL.pa_cons (POD.d (oRevB (b_var 2))) (DL.pa_cons (POD.d (oSliceB (b_var 2) x_none (x_some (p_neg p_int)))) (DL.pa_cons (POD.d (o_cat (p_var 2) (POD.d (oSliceB (b_var 2) x_none (x_some p_int))))) (DL.pa_cons (POD.d (o_lst DL.pa_nil)) (DL.pa_cons (p_tup DL.pa_nil) (DL.pa_cons p_non (DL.pa_cons p_int (DL.pa_cons p_str (DL.pa_cons p_str (DL.pa_cons p_ed (DL.pa_cons p_bl (DL.pa_cons (POD.d (o_lst (DL.pa_cons p_non DL.pa_nil))) DL.pa_nil)))))))))))))))) (ss_frz 2 (ss_cons (s_ext 9 (POD.d (o_lst (DL.pa_cons (POD.d (o_cat (p_var 2) (POD.d (o_lc [("move", 17)] rfl S__law_plays_right.nd (blkOk_by rfl) ((i_list (POD.d (oRevB (b_var 2))))).j (fun _ _ _ _ _ => (g_name 17 S__law_plays_right.nd)) (fun _ _ _ _ _ => ts_nil) (fun _ _ _ _ _ => (p_call F__law_undone (hr.mono (by decide)) (fun (z : false = true) => nomatch z) (Z.glo__law_undone) hk__law_undone hb__law_undone (DL.pa_cons (p_var 1) (DL.pa_cons (p_var 17) DL.pa_nil)))))))) (DL.pa_cons (POD.d (o_cat (p_var 2) (POD.d (o_lst (DL.pa_cons (p_tup (DL.pa_cons p_str (DL.pa_cons p_int DL.pa_nil))) (DL.pa_cons (p_tup (DL.pa_cons p_str (DL.pa_cons (POD.d (o_rep (POD.d (o_lst (DL.pa_cons p_int DL.pa_nil))) (p_var 1))) DL.pa_nil))) DL.pa_nil)))))) DL.pa_nil))))) (ss_frz 9 (ss_frz 2 (ss_cons (s_for PassesOwn.never rfl (i_list (POD.d (o_cat (p_var 9) (POD.d (o_lc [("turn", 16)] rfl S__law_plays_right.nd (blkOk_by rfl) ((i_range1 Z.fr_range (DL.pa_cons p_int DL.pa_nil))).j (fun _ _ _ _ _ => (g_name 16 S__law_plays_right.nd)) (fun _ _ _ _ _ => ts_nil) (fun _ _ _ _ _ => (p_call F__law_bent_play (hr.mono (by decide)) (fun (z : false = true) => nomatch z) (Z.glo__law_bent_play) hk__law_bent_play hb__law_bent_play (DL.pa_cons (p_var 0) (DL.pa_cons (p_var 1) (DL.pa_cons (p_var 2) DL.pa_nil)))))))))) (g_name 10 S__law_plays_right.nd) (ss_cons (s_par 11 12 rfl S__law_plays_right.nd (DL.pa_cons (p_call F__law_is_play (hr.mono (by decide)) (fun (z : false = true) => nomatch z) (Z.glo__law_is_play) hk__law_is_play hb__law_is_play (DL.pa_cons (p_var 1) (DL.pa_cons (p_var 10) DL.pa_nil))) (DL.pa_cons (p_bltn (ca_reprU Z (hr.mono (by decide)) (hg rfl)) Z.fr_repr (DL.pa_cons (p_var 10) DL.pa_nil)) DL.pa_nil)) rfl) (ss_cons (s_if (pt_cmp (op_eqU Z (hr.mono (by decide)) true) (p_bltn (ca_reprU Z (hr.mono (by decide)) (hg rfl)) Z.fr_repr (DL.pa_cons (POD.d (o_lst (DL.pa_cons (p_call F_is_play (hr.mono (by decide)) (fun (z : false = true) => nomatch z) (Z.glo_is_play) hk_is_play hb_is_play (DL.pa_cons (p_var 1) (DL.pa_cons (p_var 10) DL.pa_nil))) (DL.pa_cons (p_callK (ks := ["value", "prime"]) (ix := [1, 0]) F_is_play (hr.mono (by decide)) (fun (z : false = true) => nomatch z) (Z.glo_is_play) hk_is_play kw_is_play_0 (k_cons (p_var 10) (k_cons (p_var 1) k_nil))) DL.pa_nil)))) DL.pa_nil)) (p_bltn (ca_reprU Z (hr.mono (by decide)) (hg rfl)) Z.fr_repr (DL.pa_cons (POD.d (o_lst (DL.pa_cons (p_var 11) (DL.pa_cons (p_var 11) DL.pa_nil)))) DL.pa_nil)) rfl) (ss_one (s_ret p_bl)) ss_nil) (ss_cons (s_set 13 S__law_plays_right.nd (p_if (pt_v (p_var 11)) (POD.d (p_callO FO__law_played (hr.mono (by decide)) (fun (z : false = true) => nomatch z) (Z.glo__law_played) hk__law_played hb__law_played (DL.pa_cons (p_var 1) (DL.pa_cons (p_var 10) DL.pa_nil)))) p_non)) (ss_frz 6 (ss_cons (s_for PassesOwn.never rfl (i_list (POD.d (o_lst (DL.pa_cons (p_var 3) (DL.pa_cons (p_var 6) (DL.pa_cons (POD.d (o_listRg1 rfl Z.fr_list Z.fr_range (p_bin op_mulI (p_var 1) (p_var 1)))) DL.pa_nil)))))) (g_name 14 S__law_plays_right.nd) (ss_cons (s_set 15 S__law_plays_right.nd (p_and (p_var 11) (p_one (p_cmp (op_eqU Z (hr.mono (by decide)) false) (p_var 13) (p_var 14) rfl)))) (ss_cons (s_set 8 S__law_plays_right.nd (POD.d (o_lst (DL.pa_cons (p_call F_is_play_for (hr.mono (by decide)) (fun (z : false = true) => nomatch z) (Z.glo_is_play_for) hk_is_play_for hb_is_play_for (DL.pa_cons (p_var 1) (DL.pa_cons (POD.d (o_listOf Z.fr_list (DL.pa_cons (p_var 14) DL.pa_nil))) (DL.pa_cons (p_var 10) DL.pa_nil)))) (DL.pa_cons (p_callK (ks := ["value", "deal", "prime"]) (ix := [2, 1, 0]) F_is_play_for (hr.mono (by decide)) (fun (z : false = true) => nomatch z) (Z.glo_is_play_for) hk_is_play_for kw_is_play_for_0 (k_cons (p_var 10) (k_cons (p_type ca_tup Z.fr_tuple (DL.pa_cons (p_var 14) DL.pa_nil)) (k_cons (p_var 1) k_nil)))) DL.pa_nil))))) (ss_one (s_if (pt_cmp (op_eqU Z (hr.mono (by decide)) true) (p_bltn (ca_reprU Z (hr.mono (by decide)) (hg rfl)) Z.fr_repr (DL.pa_cons (p_var 8) DL.pa_nil)) (p_bltn (ca_reprU Z (hr.mono (by decide)) (hg rfl)) Z.fr_repr (DL.pa_cons (POD.d (o_lst (DL.pa_cons (p_var 15) (DL.pa_cons (p_var 15) DL.pa_nil)))) DL.pa_nil)) rfl) (ss_one (s_ret p_bl)) ss_nil))))) (ss_one (s_if (pt_cmp (op_eqU Z (hr.mono (by decide)) true) (p_bltn (ca_reprU Z (hr.mono (by decide)) (hg rfl)) Z.fr_repr (DL.pa_cons (p_var 10) DL.pa_nil)) (p_var 12) rfl) (ss_one (s_ret p_bl)) ss_nil)))))))) (ss_one (s_ret p_bl)))))))))))))))))
theorem w__law_plays_right {P : Program} {w : World} {K : Fr'} {mg : Str → Option Value} {base : Heap} (Z : Zx P w K mg base) : ∃ fd, FnD true P w K mg base 10 (He.ga K "_law_plays_right") fd ["pot", "prime"] (spD K (csK K) 2 d__law_plays_right) ∧ True ∧ PySem.W.keepIn K (.ref (He.ga K "_law_plays_right")) = true ∧ Binds K fd ["pot", "prime"] [] ∧ True := by
  obtain ⟨fd, D⟩ := Z.says.def_ 49 (d := z__law_plays_right)
  refine ⟨fd, fn_d (N := N__law_plays_right) D S__law_plays_right fun cdv A outer s H E hr hg => b__law_plays_right Z cdv A outer s H E hr hg, trivial, D.kp, D.bindsN (fun _ _ _ _ _ _ us hl => match us, hl with
    | [a0, a1], _ => rfl), trivial⟩
/-! _law_long_right -/
def N__law_long_right : List Str := ["pot", "move", "back", "forth", "one", "two", "three", "four", "six", "deal", "told"]
theorem S__law_long_right : FnScope N__law_long_right ["pot"] (defScope (top 65)) := ⟨rfl, rfl, rfl, by decide +kernel, rfl, by decide +kernel, by decide +kernel⟩
def m__law_long_right : MS := (mSeq (mSet 1 (mCall (lenM 2 d__law_move) (mCons (mVar 0) (mCons (mC (.int 3)) mNil)))) (mSeq (mPar 2 3 (mCons (mCall (lenM 2 d__law_undone) (mCons (mC (.int 3)) (mCons (mVar 1) mNil))) (mCons (mCall (lenM 2 d__law_undone) (mCons (mC (.int 3)) (mCons (mCall (lenM 2 d__law_undone) (mCons (mC (.int 3)) (mCons (mVar 1) mNil))) mNil))) mNil))) (mSeq (mPar 4 5 (mCons (mLst (mCallO (lenO 2 o_contrary_play) (mCons (mC (.int 3)) (mCons (mLst (oRep (mLst (mNew (mCons (mVar 1) mNil))) (mC (.int 188)))) mNil)))) (mCons (mLst (mCallO (lenO 2 o_contrary_play) (mCons (mC (.int 3)) (mCons (mLst (oRep (mLst (mNew (mCons (mVar 1) mNil))) (mC (.int 187)))) mNil)))) mNil))) (mSeq (mIfS (mB (mBin (dEqU true) (mCall cReprU (mCons (mLst (mNew (mCons (mVar 4) (mCons (mVar 5) mNil)))) mNil)) (mCall cReprU (mCons (mLst (mNew (mCons (mLst (oRep (mLst (mNew (mCons (mVar 2) mNil))) (mC (.int 188)))) (mCons (mLst (oRep (mLst (mNew (mCons (mVar 2) mNil))) (mC (.int 187)))) mNil)))) mNil)))) (mRet (mC (.bl false))) mNx) (mSeq (mSet 6 (mLst (mCallO (lenO 2 o_contrary_play) (mCons (mC (.int 3)) (mCons (mBin dAddU (mVar 4) (mVar 5)) mNil))))) (mSeq (mSet 7 (mCall (pickM 2 [1, 0] d_contrary_play) (mCons (mBin dAddU (mVar 6) (mVar 6)) (mCons (mC (.int 3)) mNil)))) (mSeq (mSet 8 (mLst (mCallO (lenO 2 o_contrary_play) (mCons (mC (.int 3)) (mCons (mBin dAddU (mVar 7) (mVar 7)) mNil))))) (mSeq (mIfS (mB (mBin (dEqU true) (mCall cReprU (mCons (mLst (mNew (mCons (mVar 6) (mCons (mVar 7) (mCons (mVar 8) mNil))))) mNil)) (mCall cReprU (mCons (mLst (mNew (mCons (mLst (oRep (mLst (mNew (mCons (mVar 3) mNil))) (mC (.int 375)))) (mCons (mLst (oRep (mLst (mNew (mCons (mVar 2) mNil))) (mC (.int 750)))) (mCons (mLst (oRep (mLst (mNew (mCons (mVar 3) mNil))) (mC (.int 1500)))) mNil))))) mNil)))) (mRet (mC (.bl false))) mNx) (mSeq (mSet 9 (mLst (mCallO (lenO 2 o__law_played) (mCons (mC (.int 3)) (mCons (mVar 8) mNil))))) (mSeq (mSet 10 (mLst (mNew (mCons (mCall (lenM 2 d_is_play) (mCons (mC (.int 3)) (mCons (mVar 8) mNil))) (mCons (mCall (lenM 2 d_is_play) (mCons (mC (.int 3)) (mCons (mLst (oCat (mVar 8) (mLst (mNew (mCons (mVar 3) mNil))))) mNil))) (mCons (mCall (lenM 3 d_is_play_for) (mCons (mC (.int 3)) (mCons (mVar 9) (mCons (mVar 8) mNil)))) (mCons (mCall (lenM 3 d_is_play_for) (mCons (mC (.int 3)) (mCons (mVar 9) (mCons (mLst (oCat (mVar 8) (mLst (mNew (mCons (mTup (mCons (mC (.str "turn")) (mCons (mC (.int 1)) mNil))) mNil))))) mNil)))) mNil))))))) (mRet (mTV (mAnd (mB (mBin (dEqU false) (mCall cReprU (mCons (mVar 10) mNil)) (mC (.str "[True, False, True, False]")))) (mB (mBin (dEqU false) (mCall cReprU (mCons (mCall (lenM 2 d_play_deal) (mCons (mC (.int 3)) (mCons (mVar 8) mNil))) mNil)) (mCall cReprU (mCons (mVar 9) mNil)))))))))))))))))
def d__law_long_right : List D → Mo D := runD 11 m__law_long_right
theorem b__law_long_right {P : Program} {w : World} {K : Fr'} {mg : Str → Option Value} {base : Heap} (Z : Zx P w K mg base) (cdv : Value) (A : Around) (outer : List Env) (s : Shared) (H : Hp) (E : XK) (hr : Room 9 (A.deeper (envOfC "_law_long_right" (defScope (top 65)) s.heap.objs.size (He.ga K "_law_long_right") cdv))) (hg : true = true → A.guards = some []) :
    PSsD (csK K) (cx0 P w K mg base N__law_long_right "_law_long_right" (defScope (top 65)) (He.ga K "_law_long_right") cdv A outer s H E) (defBody (top 65)) m__law_long_right := by
  obtain ⟨fd__law_move, F__law_move, FO__law_move, hk__law_move, hb__law_move, _⟩ := w__law_move Z
  obtain ⟨fd__law_played, F__law_played, FO__law_played, hk__law_played, hb__law_played, _⟩ := w__law_played Z
  obtain ⟨fd__law_undone, F__law_undone, FO__law_undone, hk__law_undone, hb__law_undone, _⟩ := w__law_undone Z
  obtain ⟨fd_contrary_play, F_contrary_play, FO_contrary_play, hk_contrary_play, hb_contrary_play, kw_contrary_play_0, _⟩ := w_contrary_play Z
  obtain ⟨fd_is_play, F_is_play, FO_is_play, hk_is_play, hb_is_play, kw_is_play_0, _⟩ := w_is_play Z
  obtain ⟨fd_is_play_for, F_is_play_for, FO_is_play_for, hk_is_play_for, hb_is_play_for, kw_is_play_for_0, _⟩ := w_is_play_for Z
  obtain ⟨fd_play_deal, F_play_deal, FO_play_deal, hk_play_deal, hb_play_deal, kw_play_deal_0, _⟩ := w_play_deal Z
  exact (ss_cons (s_set 1 S__law_long_right.nd (p_call F__law_move (hr.mono (by decide)) (fun (z : false = true) => nomatch z) (Z.glo__law_move) hk__law_move hb__law_move (DL.pa_cons (p_var 0) (DL.pa_cons p_int DL.pa_nil)))) (ss_cons (s_par 2 3 rfl S__law_long_right.nd (DL.pa_cons (p_call F__law_undone (hr.mono (by decide)) (fun (z : false = true) => nomatch z) (Z.glo__law_undone) hk__law_undone hb__law_undone (DL.pa_cons p_int (DL.pa_cons (p_var 1) DL.pa_nil))) (DL.pa_cons (p_call F__law_undone (hr.mono (by decide)) (fun (z : false = true) => nomatch z) (Z.glo__law_undone) hk__law_undone hb__law_undone (DL.pa_cons p_int (DL.pa_cons (p_call F__law_undone (hr.mono (by decide)) (fun (z : false = true) => nomatch z) (Z.glo__law_undone) hk__law_undone hb__law_undone (DL.pa_cons p_int (DL.pa_cons (p_var 1) DL.pa_nil))) DL.pa_nil))) DL.pa_nil)) rfl) (ss_cons (s_par 4 5 rfl S__law_long_right.nd (DL.pa_cons (POD.d (p_callO FO_contrary_play (hr.mono (by decide)) (fun (z : false = true) => nomatch z) (Z.glo_contrary_play) hk_contrary_play hb_contrary_play (DL.pa_cons p_int (DL.pa_cons (POD.d (o_rep (POD.d (o_lst (DL.pa_cons (p_var 1) DL.pa_nil))) p_int)) DL.pa_nil)))) (DL.pa_cons (POD.d (p_callO FO_contrary_play (hr.mono (by decide)) (fun (z : false = true) => nomatch z) (Z.glo_contrary_play) hk_contrary_play hb_contrary_play (DL.pa_cons p_int (DL.pa_cons (POD.d (o_rep (POD.d (o_lst (DL.pa_cons (p_var 1) DL.pa_nil))) p_int)) DL.pa_nil)))) DL.pa_nil)) rfl) (ss_cons (s_if (pt_cmp (op_eqU Z (hr.mono (by decide)) true) (p_bltn (ca_reprU Z (hr.mono (by decide)) (hg rfl)) Z.fr_repr (DL.pa_cons (POD.d (o_lst (DL.pa_cons (p_var 4) (DL.pa_cons (p_var 5) DL.pa_nil)))) DL.pa_nil)) (p_bltn (ca_reprU Z (hr.mono (by decide)) (hg rfl)) Z.fr_repr (DL.pa_cons (POD.d (o_lst (DL.pa_cons (POD.d (o_rep (POD.d (o_lst (DL.pa_cons (p_var 2) DL.pa_nil))) p_int)) (DL.pa_cons (POD.d (o_rep (POD.d (o_lst (DL.pa_cons (p_var 2) DL.pa_nil))) p_int)) DL.pa_nil)))) DL.pa_nil)) rfl) (ss_one (s_ret p_bl)) ss_nil) (ss_cons (s_set 6 S__law_long_right.nd (POD.d (p_callO FO_contrary_play (hr.mono (by decide)) (fun (z : false = true) => nomatch z) (Z.glo_contrary_play) hk_contrary_play hb_contrary_play (DL.pa_cons p_int (DL.pa_cons (p_bin (op_addU Z (hr.mono (by decide))) (p_var 4) (p_var 5)) DL.pa_nil))))) (ss_cons (s_set 7 S__law_long_right.nd (p_callK (ks := ["play", "prime"]) (ix := [1, 0]) F_contrary_play (hr.mono (by decide)) (fun (z : false = true) => nomatch z) (Z.glo_contrary_play) hk_contrary_play kw_contrary_play_0 (k_cons (p_bin (op_addU Z (hr.mono (by decide))) (p_var 6) (p_var 6)) (k_cons p_int k_nil)))) (ss_cons (s_set 8 S__law_long_right.nd (POD.d (p_callO FO_contrary_play (hr.mono (by decide)) (fun (z : false = true) => nomatch z) (Z.glo_contrary_play) hk_contrary_play hb_contrary_play (DL.pa_cons p_int (DL.pa_cons (p_bin (op_addU Z (hr.mono (by decide))) (p_var 7) (p_var 7)) DL.pa_nil))))) (ss_cons (s_if (pt_cmp (op_eqU Z (hr.mono (by decide)) true) (p_bltn (ca_reprU Z (hr.mono (by decide)) (hg rfl)) Z.fr_repr (DL.pa_cons (POD.d (o_lst (DL.pa_cons (p_var 6) (DL.pa_cons (p_var 7) (DL.pa_cons (p_var 8) DL.pa_nil))))) DL.pa_nil)) (p_bltn (ca_reprU Z (hr.mono (by decide)) (hg rfl)) Z.fr_repr (DL.pa_cons (POD.d (o_lst (DL.pa_cons (POD.d (o_rep (POD.d (o_lst (DL.pa_cons (p_var 3) DL.pa_nil))) p_int)) (DL.pa_cons (POD.d (o_rep (POD.d (o_lst (DL.pa_cons (p_var 2) DL.pa_nil))) p_int)) (DL.pa_cons (POD.d (o_rep (POD.d (o_lst (DL.pa_cons (p_var 3) DL.pa_nil))) p_int)) DL.pa_nil))))) DL.pa_nil)) rfl) (ss_one (s_ret p_bl)) ss_nil) (ss_cons (s_set 9 S__law_long_right.nd (POD.d (p_callO FO__law_played (hr.mono (by decide)) (fun (z : false = true) => nomatch z) (Z.glo__law_played) hk__law_played hb__law_played (DL.pa_cons p_int (DL.pa_cons (p_var 8) DL.pa_nil))))) (ss_cons (s_set 10 S__law_long_right.nd (POD.d (o_lst (DL.pa_cons (p_call F_is_play (hr.mono (by decide)) (fun (z : false = true) => nomatch z) (Z.glo_is_play) hk_is_play hb_is_play (DL.pa_cons p_int (DL.pa_cons (p_var 8) DL.pa_nil))) (DL.pa_cons (p_call F_is_play (hr.mono (by decide)) (fun (z : false = true) => nomatch z) (Z.glo_is_play) hk_is_play hb_is_play (DL.pa_cons p_int (DL.pa_cons (POD.d (o_cat (p_var 8) (POD.d (o_lst (DL.pa_cons (p_var 3) DL.pa_nil))))) DL.pa_nil))) (DL.pa_cons (p_call F_is_play_for (hr.mono (by decide)) (fun (z : false = true) => nomatch z) (Z.glo_is_play_for) hk_is_play_for hb_is_play_for (DL.pa_cons p_int (DL.pa_cons (p_var 9) (DL.pa_cons (p_var 8) DL.pa_nil)))) (DL.pa_cons (p_call F_is_play_for (hr.mono (by decide)) (fun (z : false = true) => nomatch z) (Z.glo_is_play_for) hk_is_play_for hb_is_play_for (DL.pa_cons p_int (DL.pa_cons (p_var 9) (DL.pa_cons (POD.d (o_cat (p_var 8) (POD.d (o_lst (DL.pa_cons (p_tup (DL.pa_cons p_str (DL.pa_cons p_int DL.pa_nil))) DL.pa_nil))))) DL.pa_nil)))) DL.pa_nil))))))) (ss_one (s_ret (p_and (p_cmp (op_eqU Z (hr.mono (by decide)) false) (p_bltn (ca_reprU Z (hr.mono (by decide)) (hg rfl)) Z.fr_repr (DL.pa_cons (p_var 10) DL.pa_nil)) p_str rfl) (p_one (p_cmp (op_eqU Z (hr.mono (by decide)) false) (p_bltn (ca_reprU Z (hr.mono (by decide)) (hg rfl)) Z.fr_repr (DL.pa_cons (p_call F_play_deal (hr.mono (by decide)) (fun (z : false = true) => nomatch z) (Z.glo_play_deal) hk_play_deal hb_play_deal (DL.pa_cons p_int (DL.pa_cons (p_var 8) DL.pa_nil))) DL.pa_nil)) (p_bltn (ca_reprU Z (hr.mono (by decide)) (hg rfl)) Z.fr_repr (DL.pa_cons (p_var 9) DL.pa_nil)) rfl)))))))))))))))
theorem w__law_long_right {P : Program} {w : World} {K : Fr'} {mg : Str → Option Value} {base : Heap} (Z : Zx P w K mg base) : ∃ fd, FnD true P w K mg base 10 (He.ga K "_law_long_right") fd ["pot"] (spD K (csK K) 1 d__law_long_right) ∧ True ∧ PySem.W.keepIn K (.ref (He.ga K "_law_long_right")) = true ∧ Binds K fd ["pot"] [] ∧ True := by
  obtain ⟨fd, D⟩ := Z.says.def_ 50 (d := z__law_long_right)
  refine ⟨fd, fn_d (N := N__law_long_right) D S__law_long_right fun cdv A outer s H E hr hg => b__law_long_right Z cdv A outer s H E hr hg, trivial, D.kp, D.bindsN (fun _ _ _ _ _ _ us hl => match us, hl with
    | [a0], _ => rfl), trivial⟩
/-! _law_right -/
def N__law_right : List Str := ["pot", "way", "prime"]
theorem S__law_right : FnScope N__law_right ["pot"] (defScope (top 66)) := ⟨rfl, rfl, rfl, by decide +kernel, rfl, by decide +kernel, by decide +kernel⟩
def m__law_right : MS := (mSeq (mPar 1 2 (mCons (mCall (lenM 2 d__law_draw) (mCons (mVar 0) (mCons (mC (.int 3)) mNil))) (mCons (mCall (lenM 2 d__law_pick) (mCons (mVar 0) (mCons (mLst (mNew (mCons (mC (.int 3)) (mCons (mC (.int 5)) (mCons (mC (.int 7)) (mCons (mC (.int 11)) mNil)))))) mNil))) mNil))) (mSeq (mIfS (mOr (mNot (mB (mCall (lenM 2 d__law_deals_right) (mCons (mVar 0) (mCons (mVar 2) mNil))))) (mNot (mB (mCall (lenM 2 d__law_plays_right) (mCons (mVar 0) (mCons (mVar 2) mNil)))))) (mRet (mC (.bl false))) mNx) (mRet (mTV (mOr (mB (mBin dGt (mVar 1) (mC (.int 0)))) (mB (mCall (lenM 1 d__law_long_right) (mCons (mVar 0) mNil))))))))
def d__law_right : List D → Mo D := runD 3 m__law_right
theorem b__law_right {P : Program} {w : World} {K : Fr'} {mg : Str → Option Value} {base : Heap} (Z : Zx P w K mg base) (cdv : Value) (A : Around) (outer : List Env) (s : Shared) (H : Hp) (E : XK) (hr : Room 10 (A.deeper (envOfC "_law_right" (defScope (top 66)) s.heap.objs.size (He.ga K "_law_right") cdv))) (hg : true = true → A.guards = some []) :
    PSsD (csK K) (cx0 P w K mg base N__law_right "_law_right" (defScope (top 66)) (He.ga K "_law_right") cdv A outer s H E) (defBody (top 66)) m__law_right := by
  obtain ⟨fd__law_deals_right, F__law_deals_right, FO__law_deals_right, hk__law_deals_right, hb__law_deals_right, _⟩ := w__law_deals_right Z
  obtain ⟨fd__law_draw, F__law_draw, FO__law_draw, hk__law_draw, hb__law_draw, _⟩ := w__law_draw Z
  obtain ⟨fd__law_long_right, F__law_long_right, FO__law_long_right, hk__law_long_right, hb__law_long_right, _⟩ := w__law_long_right Z
  obtain ⟨fd__law_pick, F__law_pick, FO__law_pick, hk__law_pick, hb__law_pick, _⟩ := w__law_pick Z
  obtain ⟨fd__law_plays_right, F__law_plays_right, FO__law_plays_right, hk__law_plays_right, hb__law_plays_right, _⟩ := w__law_plays_right Z
  exact (ss_cons (s_par 1 2 rfl S__law_right.nd (DL.pa_cons (p_call F__law_draw (hr.mono (by decide)) (fun (z : false = true) => nomatch z) (Z.glo__law_draw) hk__law_draw hb__law_draw (DL.pa_cons (p_var 0) (DL.pa_cons p_int DL.pa_nil))) (DL.pa_cons (p_call F__law_pick (hr.mono (by decide)) (fun (z : false = true) => nomatch z) (Z.glo__law_pick) hk__law_pick hb__law_pick (DL.pa_cons (p_var 0) (DL.pa_cons (POD.d (o_lst (DL.pa_cons p_int (DL.pa_cons p_int (DL.pa_cons p_int (DL.pa_cons p_int DL.pa_nil)))))) DL.pa_nil))) DL.pa_nil)) rfl) (ss_cons (s_if (PWD.pt (DL.pw_or (DL.pt_not (pt_v (p_call F__law_deals_right (hr.mono (by decide)) (fun _ => hg rfl) (Z.glo__law_deals_right) hk__law_deals_right hb__law_deals_right (DL.pa_cons (p_var 0) (DL.pa_cons (p_var 2) DL.pa_nil))))) (pw_one (DL.pt_not (pt_v (p_call F__law_plays_right (hr.mono (by decide)) (fun _ => hg rfl) (Z.glo__law_plays_right) hk__law_plays_right hb__law_plays_right (DL.pa_cons (p_var 0) (DL.pa_cons (p_var 2) DL.pa_nil)))))))) (ss_one (s_ret p_bl)) ss_nil) (ss_one (s_ret (p_or (p_cmp op_gtI (p_var 1) p_int rfl) (p_one (p_call F__law_long_right (hr.mono (by decide)) (fun _ => hg rfl) (Z.glo__law_long_right) hk__law_long_right hb__law_long_right (DL.pa_cons (p_var 0) DL.pa_nil))))))))
theorem w__law_right {P : Program} {w : World} {K : Fr'} {mg : Str → Option Value} {base : Heap} (Z : Zx P w K mg base) : ∃ fd, FnD true P w K mg base 11 (He.ga K "_law_right") fd ["pot"] (spD K (csK K) 1 d__law_right) ∧ True ∧ PySem.W.keepIn K (.ref (He.ga K "_law_right")) = true ∧ Binds K fd ["pot"] [] ∧ True := by
  obtain ⟨fd, D⟩ := Z.says.def_ 51 (d := z__law_right)
  refine ⟨fd, fn_d (N := N__law_right) D S__law_right fun cdv A outer s H E hr hg => b__law_right Z cdv A outer s H E hr hg, trivial, D.kp, D.bindsN (fun _ _ _ _ _ _ us hl => match us, hl with
    | [a0], _ => rfl), trivial⟩
end
end Q
end

section
set_option Elab.async false
set_option linter.all false
set_option maxRecDepth 100000
set_option maxHeartbeats 4000000
set_option exponentiation.threshold 20000
/-! the plain law: numbers. -/
namespace Q
open DL PySem PyProof.Rows
/-- a ratio's datum -/
def rat (x : Rat) : D := .ins 0 [.int x.num, .int x.den]
/-- the law's own pair -/
def pr (x : Rat) : D := .tup [.int x.num, .int x.den]
theorem ratE (x : Rat) : rat x = .ins 0 [.int x.num, .int x.den] := rfl
theorem prE (x : Rat) : pr x = .tup [.int x.num, .int x.den] := rfl
theorem divInt1 (n : Int) : Rat.divInt n 1 = (n : Rat) := by
  rw [Rat.divInt_eq_div]; grind
theorem isint_int (n : Int) : d_is_integer [.int n] = retM (.bl true) := by
  funext p; simp [runD, env0, mSeq, mIfS, mNot, mB, mIsC, mVar, isC, mRet, mC, mTV, mAnd, mOr, mBin, mFld, dEqF, flV, retM, DL.bindM, mNx, mCall, lenM, mCons, mNil, mTup, mIsT, isT, mSet, mAsg, tgTup, tgCons, tgN, tgNil, mk_Ratio_1, mk_Ratio_2, mCallO, lenO, runO, mRetO, mLst, mIf, mUn, dNegI, d_is_integer, m_is_integer]
theorem isint_ins (c : Nat) (fs : List D) : d_is_integer [.ins c fs] = retM (.bl false) := by
  funext p; simp [runD, env0, mSeq, mIfS, mNot, mB, mIsC, mVar, isC, mRet, mC, mTV, mAnd, mOr, mBin, mFld, dEqF, flV, retM, DL.bindM, mNx, mCall, lenM, mCons, mNil, mTup, mIsT, isT, mSet, mAsg, tgTup, tgCons, tgN, tgNil, mk_Ratio_1, mk_Ratio_2, mCallO, lenO, runO, mRetO, mLst, mIf, mUn, dNegI, d_is_integer, m_is_integer]
theorem gcd_ne {t b : Int} (h : b ≠ 0) : (Nat.gcd t.natAbs b.natAbs : Nat) ≠ 0 := by
  intro z
  have := Nat.gcd_eq_zero_iff.mp z
  omega
theorem init_eq (t b : Int) (hb : b ≠ 0) (hz : b.natAbs < bigN) : d_Ratio___init__ [.int t, .int b] = retM (rat (Rat.divInt t b)) := by
  have hg : (Nat.gcd t.natAbs b.natAbs : Nat) < bigN := Nat.lt_of_le_of_lt (Nat.gcd_le_right _ (by omega)) hz
  have hg0 := gcd_ne (t := t) hb
  have hg1 : ((Nat.gcd t.natAbs b.natAbs : Nat) : Int) ≠ 0 := by exact_mod_cast hg0
  have dt : ((Nat.gcd t.natAbs b.natAbs : Nat) : Int) ∣ t := PySem.W.mg_dvd_left t b
  have db : ((Nat.gcd t.natAbs b.natAbs : Nat) : Int) ∣ b := PySem.W.mg_dvd_right t b
  have hnum : (Rat.divInt t b).num = b.sign * t / ((Nat.gcd t.natAbs b.natAbs : Nat) : Int) := by
    rw [Rat.num_divInt, Int.gcd_comm]; rfl
  have hden : (((Rat.divInt t b).den : Nat) : Int) = (b.natAbs : Int) / ((Nat.gcd t.natAbs b.natAbs : Nat) : Int) := by
    rw [Rat.den_divInt, if_neg hb, Int.gcd_comm]; rfl
  funext p
  by_cases h : b < 0
  · have e1 : t.fdiv (-((Nat.gcd t.natAbs b.natAbs : Nat) : Int)) = (Rat.divInt t b).num := by
      rw [hnum, Int.sign_eq_neg_one_of_neg h]
      obtain ⟨q, hq⟩ := dt
      generalize ((Nat.gcd t.natAbs b.natAbs : Nat) : Int) = g at *
      subst hq
      rw [show -1 * (g * q) = g * (-q) by grind, Int.mul_ediv_cancel_left _ hg1, show g * q = -g * (-q) by grind, Int.mul_fdiv_cancel_left _ (by omega)]
    have e2 : b.fdiv (-((Nat.gcd t.natAbs b.natAbs : Nat) : Int)) = (((Rat.divInt t b).den : Nat) : Int) := by
      rw [hden]
      obtain ⟨q, hq⟩ := db
      rw [show (b.natAbs : Int) = -b by omega]
      generalize ((Nat.gcd t.natAbs b.natAbs : Nat) : Int) = g at *
      subst hq
      rw [show -(g * q) = g * (-q) by grind, Int.mul_ediv_cancel_left _ hg1, show g * q = -g * (-q) by grind, Int.mul_fdiv_cancel_left _ (by omega)]
    simp [runD, env0, mSeq, mIfS, mNot, mB, mIsC, mVar, isC, mRet, mC, mTV, mAnd, mOr, mBin, mFld, dEqF, flV, retM, DL.bindM, mNx, mCall, lenM, mCons, mNil, mTup, mIsT, isT, mSet, mAsg, tgTup, tgCons, tgN, tgNil, mk_Ratio_1, mk_Ratio_2, mCallO, lenO, runO, mRetO, mLst, mIf, mUn, dNegI, d_Ratio___init__, m_Ratio___init__, runI, envI, isint_int, dLt, dII, d_common_part, m_common_part, cGcd, dSubI, h, mFldAt, mFldSet, dDivI, L2.scal, hb, hg, e1, e2, ratE]
  · have e1 : t.fdiv ((Nat.gcd t.natAbs b.natAbs : Nat) : Int) = (Rat.divInt t b).num := by
      rw [hnum, Int.sign_eq_one_of_pos (by omega)]
      obtain ⟨q, hq⟩ := dt
      generalize ((Nat.gcd t.natAbs b.natAbs : Nat) : Int) = g at *
      subst hq
      rw [Int.one_mul, Int.mul_ediv_cancel_left _ hg1, Int.mul_fdiv_cancel_left _ hg1]
    have e2 : b.fdiv ((Nat.gcd t.natAbs b.natAbs : Nat) : Int) = (((Rat.divInt t b).den : Nat) : Int) := by
      rw [hden]
      obtain ⟨q, hq⟩ := db
      rw [show (b.natAbs : Int) = b by omega]
      generalize ((Nat.gcd t.natAbs b.natAbs : Nat) : Int) = g at *
      subst hq
      rw [Int.mul_ediv_cancel_left _ hg1, Int.mul_fdiv_cancel_left _ hg1]
    simp [runD, env0, mSeq, mIfS, mNot, mB, mIsC, mVar, isC, mRet, mC, mTV, mAnd, mOr, mBin, mFld, dEqF, flV, retM, DL.bindM, mNx, mCall, lenM, mCons, mNil, mTup, mIsT, isT, mSet, mAsg, tgTup, tgCons, tgN, tgNil, mk_Ratio_1, mk_Ratio_2, mCallO, lenO, runO, mRetO, mLst, mIf, mUn, dNegI, d_Ratio___init__, m_Ratio___init__, runI, envI, isint_int, dLt, dII, d_common_part, m_common_part, cGcd, dSubI, h, mFldAt, mFldSet, dDivI, L2.scal, hb, hg, hg0, e1, e2, ratE]
theorem tp_int (a : Int) : d_told_pair [.int a] = retM (.tup [.int a, .int 1]) := by
  funext p; simp [runD, env0, mSeq, mIfS, mNot, mB, mIsC, mVar, isC, mRet, mC, mTV, mAnd, mOr, mBin, mFld, dEqF, flV, retM, DL.bindM, mNx, mCall, lenM, mCons, mNil, mTup, mIsT, isT, mSet, mAsg, tgTup, tgCons, tgN, tgNil, mk_Ratio_1, mk_Ratio_2, mCallO, lenO, runO, mRetO, mLst, mIf, mUn, dNegI, d_told_pair, m_told_pair, mTup, isint_int]
theorem tp_rat (x : Rat) : d_told_pair [rat x] = retM (.tup [.int x.num, .int x.den]) := by
  funext p; simp [runD, env0, mSeq, mIfS, mNot, mB, mIsC, mVar, isC, mRet, mC, mTV, mAnd, mOr, mBin, mFld, dEqF, flV, retM, DL.bindM, mNx, mCall, lenM, mCons, mNil, mTup, mIsT, isT, mSet, mAsg, tgTup, tgCons, tgN, tgNil, mk_Ratio_1, mk_Ratio_2, mCallO, lenO, runO, mRetO, mLst, mIf, mUn, dNegI, d_told_pair, m_told_pair, mTup, ratE]
/-- small enough to be reckoned with -/
structure Sz (x : Rat) : Prop where
  n : x.num.natAbs < 10 ^ 60
  d : x.den < 10 ^ 60
theorem pow_big : 10 ^ 60 * 10 ^ 60 < bigN := by unfold bigN; decide +kernel
theorem pow_big1 : 10 ^ 60 < bigN := by unfold bigN; decide +kernel
theorem mulI_ok {i j : Int} (h : i.natAbs < 10 ^ 60) (h' : j.natAbs < 10 ^ 60) : dMulI (.int i) (.int j) = retM (.int (i * j)) := by
  have h1 := Nat.lt_trans h pow_big1
  have h2 := Nat.lt_trans h' pow_big1
  unfold dMulI dII
  simp only [h1, h2, decide_true, Bool.and_self, if_pos]
theorem while_no {c : Env' → Mo Bool} {b : MS} {n : Nat} {env : Env'} (h : c env = retM false) : whileM c b (n + 1) env = retM (.nx, env) := by
  funext p
  unfold whileM
  simp [runD, env0, mSeq, mIfS, mNot, mB, mIsC, mVar, isC, mRet, mC, mTV, mAnd, mOr, mBin, mFld, dEqF, flV, retM, DL.bindM, mNx, mCall, lenM, mCons, mNil, mTup, mIsT, isT, mSet, mAsg, tgTup, tgCons, tgN, tgNil, mk_Ratio_1, mk_Ratio_2, mCallO, lenO, runO, mRetO, mLst, mIf, mUn, dNegI, h]
theorem log_lt {n : Nat} (h : n < 10 ^ 60) : n.log2 < 1920 := by
  by_cases z : n = 0
  · subst z; decide +kernel
  · rw [Nat.log2_lt z]
    exact Nat.lt_trans h (by decide +kernel)
theorem len_nat {n : Nat} (h : n < 10 ^ 60) : (Str.ofString (toString (n : Int))).length ≤ 60 :=
  toString_length_le (by omega) (by decide) (by exact_mod_cast h)
theorem digs {n : Int} (h : n.natAbs < 10 ^ 60) : ∃ t : Str, d_digits_of [.int n] = retM (.str t) ∧ t.length ≤ 61 := by
  have hl := len_nat h
  have hg := log_lt h
  have hlt : ¬ ((1000000000000000000000000000000000000000000000000000000000000 : Int) ≤ (n.natAbs : Int)) := by omega
  generalize hS : Str.ofString (toString (n.natAbs : Int)) = S at *
  refine ⟨(Str.empty ++ (if n < 0 then ("-" : Str) else ("" : Str))) ++ S ++ ("" : Str), ?_, ?_⟩
  · have hleft : (if 0 ≤ n then n else 0 - n) = (n.natAbs : Int) := by split <;> omega
    obtain ⟨body, hb⟩ : ∃ b : MS, m_digits_of = mSeq (mPar 1 2 (mCons (mIf (mB (mBin dGe (mVar 0) (mC (.int 0)))) (mVar 0) (mBin dSubI (mC (.int 0)) (mVar 0))) (mCons (mC (.str "")) mNil))) (mSeq (mWhile (mB (mBin dGe (mVar 1) (mC (.int 1000000000000000000000000000000000000000000000000000000000000)))) b) (mSeq (mSet 4 (mIf (mB (mBin dLt (mVar 0) (mC (.int 0)))) (mC (.str "-")) (mC (.str "")))) (mRet (mJs [(mFmt (mVar 4)), (mFmt (mVar 1)), (mFmt (mVar 2))])))) := ⟨_, rfl⟩
    have hw : whileM (mB (mBin dGe (mVar 1) (mC (.int 1000000000000000000000000000000000000000000000000000000000000)))) body fuelW [.val (.int n), .val (.int (n.natAbs : Int)), .val (.str ""), .un, .un] = retM (.nx, [.val (.int n), .val (.int (n.natAbs : Int)), .val (.str ""), .un, .un]) := by
      refine while_no (n := 1999999) ?_
      funext p
      simp only [mB, mBin, mVar, mC, dGe, dII, DL.bindM, retM, List.getElem?_cons_succ, List.getElem?_cons_zero, hlt, decide_false, if_true]
    generalize mB (mBin dGe (mVar 1) (mC (.int 1000000000000000000000000000000000000000000000000000000000000))) = co at *
    have hf : ∀ v : SV, mFmt (mVar 1) [.val (.int n), .val (.int (n.natAbs : Int)), .val (.str ""), .un, v] = retM (.str S) := fun v => by
      rw [← hS]
      funext p
      have : (n.natAbs : Int).natAbs.log2 < 1920 := by rw [Int.natAbs_natCast]; exact hg
      simp only [mFmt, mVar, DL.bindM, retM, List.getElem?_cons_succ, List.getElem?_cons_zero, this, if_true]
    have hm : mPar 1 2 (mCons (mIf (mB (mBin dGe (mVar 0) (mC (.int 0)))) (mVar 0) (mBin dSubI (mC (.int 0)) (mVar 0))) (mCons (mC (.str "")) mNil)) [.val (.int n), .un, .un, .un, .un] = retM (.nx, [.val (.int n), .val (.int (n.natAbs : Int)), .val (.str ""), .un, .un]) := by
      rw [← hleft]
      funext p
      by_cases h0 : 0 ≤ n
      · simp [runD, env0, mSeq, mIfS, mNot, mB, mIsC, mVar, isC, mRet, mC, mTV, mAnd, mOr, mBin, mFld, dEqF, flV, retM, DL.bindM, mNx, mCall, lenM, mCons, mNil, mTup, mIsT, isT, mSet, mAsg, tgTup, tgCons, tgN, tgNil, mk_Ratio_1, mk_Ratio_2, mCallO, lenO, runO, mRetO, mLst, mIf, mUn, dNegI, mPar, dGe, dII, h0]
      · simp [runD, env0, mSeq, mIfS, mNot, mB, mIsC, mVar, isC, mRet, mC, mTV, mAnd, mOr, mBin, mFld, dEqF, flV, retM, DL.bindM, mNx, mCall, lenM, mCons, mNil, mTup, mIsT, isT, mSet, mAsg, tgTup, tgCons, tgN, tgNil, mk_Ratio_1, mk_Ratio_2, mCallO, lenO, runO, mRetO, mLst, mIf, mUn, dNegI, mPar, dGe, dII, h0, dSubI]
    have e1 : ∀ x y z : Str, x.length ≤ 1 → y.length ≤ 60 → z.length = 0 → mJs [(mFmt (mVar 4)), (mFmt (mVar 1)), (mFmt (mVar 2))] [.val (.int n), .val (.int (n.natAbs : Int)), .val (.str ""), .un, .val (.str x)] = retM (.str (Str.empty ++ x ++ S ++ "")) := fun x y z hx hy hz => by
      have e2 : Str.empty.length = 0 := rfl
      have e3 : (("" : String) : Str).length = 0 := rfl
      have l1 : x.length ≤ 10000000 := by omega
      have l2 : (Str.empty ++ x).length ≤ 10000000 := by rw [strLen_append]; omega
      have l3 : (Str.empty ++ x ++ S).length ≤ 10000000 := by rw [strLen_append, strLen_append]; omega
      have l4 : (Str.empty ++ x ++ S ++ ("" : Str)).length ≤ 10000000 := by rw [strLen_append, strLen_append, strLen_append]; omega
      have l5 : (("" : String) : Str).length ≤ 10000000 := by omega
      have f4 : mFmt (mVar 4) [.val (.int n), .val (.int (n.natAbs : Int)), .val (.str ""), .un, .val (.str x)] = retM (.str x) := by
        funext p
        simp only [mFmt, mVar, DL.bindM, retM, List.getElem?_cons_succ, List.getElem?_cons_zero, l1, if_true]
      have f2 : mFmt (mVar 2) [.val (.int n), .val (.int (n.natAbs : Int)), .val (.str ""), .un, .val (.str x)] = retM (.str "") := by
        funext p
        simp only [mFmt, mVar, DL.bindM, retM, List.getElem?_cons_succ, List.getElem?_cons_zero, l5, if_true]
      have f1 := hf (.val (.str x))
      generalize mFmt (mVar 4) = a4 at *
      generalize mFmt (mVar 1) = a1 at *
      generalize mFmt (mVar 2) = a2 at *
      funext p
      simp only [mJs, mJoin, DL.bindM, retM, f4, f1, f2, l2, l3, l4, if_true]
    have hsg : mSet 4 (mIf (mB (mBin dLt (mVar 0) (mC (.int 0)))) (mC (.str "-")) (mC (.str ""))) [.val (.int n), .val (.int (n.natAbs : Int)), .val (.str ""), .un, .un] = retM (.nx, [.val (.int n), .val (.int (n.natAbs : Int)), .val (.str ""), .un, .val (.str (if n < 0 then ("-" : Str) else ("" : Str)))]) := by
      funext p
      by_cases h0 : n < 0
      · simp only [mSet, mIf, mB, mBin, mVar, mC, dLt, dII, DL.bindM, retM, List.getElem?_cons_succ, List.getElem?_cons_zero, h0, decide_true, if_true, List.set_cons_succ, List.set_cons_zero]
      · simp only [mSet, mIf, mB, mBin, mVar, mC, dLt, dII, DL.bindM, retM, List.getElem?_cons_succ, List.getElem?_cons_zero, h0, decide_false, if_true, if_false, List.set_cons_succ, List.set_cons_zero, Bool.false_eq_true]
    have e2 := e1 (if n < 0 then ("-" : Str) else ("" : Str)) S "" (by split <;> decide) hl rfl
    generalize (if n < 0 then ("-" : Str) else ("" : Str)) = sg at *
    generalize mJs [(mFmt (mVar 4)), (mFmt (mVar 1)), (mFmt (mVar 2))] = js at *
    generalize mSet 4 (mIf (mB (mBin dLt (mVar 0) (mC (.int 0)))) (mC (.str "-")) (mC (.str ""))) = sgm at *
    generalize mPar 1 2 (mCons (mIf (mB (mBin dGe (mVar 0) (mC (.int 0)))) (mVar 0) (mBin dSubI (mC (.int 0)) (mVar 0))) (mCons (mC (.str "")) mNil)) = pm at *
    funext p
    simp only [d_digits_of, runD, env0, hb, mSeq, hm, mWhile, hw, hsg, mRet, e2, DL.bindM, retM, List.map_cons, List.map_nil, List.replicate, List.length_cons, List.length_nil, List.cons_append, List.nil_append, Nat.reduceSub, Nat.reduceAdd]
  · rw [strLen_append, strLen_append, strLen_append]
    have e1 : (("" : String) : Str).length = 0 := rfl
    have e2 : Str.empty.length = 0 := rfl
    have e3 : (if n < 0 then ("-" : Str) else ("" : Str)).length ≤ 1 := by split <;> decide
    rw [e1, e2]
    omega
theorem ratio_text {x : Rat} (hx : Sz x) : ∃ t : Str, ur 0 [.int x.num, .int x.den] = some t ∧ t.length ≤ 200 := by
  obtain ⟨s1, d1, l1⟩ := digs hx.n
  obtain ⟨s2, d2, l2⟩ := digs (n := (x.den : Int)) (by rw [Int.natAbs_natCast]; exact hx.d)
  have e0 : Str.empty.length = 0 := rfl
  have e1 : (("Ratio(" : String) : Str).length = 6 := rfl
  have e2 : ((", " : String) : Str).length = 2 := rfl
  have e3 : ((")" : String) : Str).length = 1 := rfl
  refine ⟨Str.empty ++ "Ratio(" ++ s1 ++ ", " ++ s2 ++ ")", ur_of fun p => ?_, ?_⟩
  · have f1 : mFmt (mCall (lenM 1 d_digits_of) (mCons (mFld 0 0 (mVar 0)) mNil)) [.val (rat x)] = retM (.str s1) := by
      have : s1.length ≤ 10000000 := by omega
      funext p
      simp [runD, env0, mSeq, mIfS, mNot, mB, mIsC, mVar, isC, mRet, mC, mTV, mAnd, mOr, mBin, mFld, dEqF, flV, retM, DL.bindM, mNx, mCall, lenM, mCons, mNil, mTup, mIsT, isT, mSet, mAsg, tgTup, tgCons, tgN, tgNil, mk_Ratio_1, mk_Ratio_2, mCallO, lenO, runO, mRetO, mLst, mIf, mUn, dNegI, mFmt, ratE, d1, this]
    have f2 : mFmt (mCall (lenM 1 d_digits_of) (mCons (mFld 0 1 (mVar 0)) mNil)) [.val (rat x)] = retM (.str s2) := by
      have : s2.length ≤ 10000000 := by omega
      funext p
      simp [runD, env0, mSeq, mIfS, mNot, mB, mIsC, mVar, isC, mRet, mC, mTV, mAnd, mOr, mBin, mFld, dEqF, flV, retM, DL.bindM, mNx, mCall, lenM, mCons, mNil, mTup, mIsT, isT, mSet, mAsg, tgTup, tgCons, tgN, tgNil, mk_Ratio_1, mk_Ratio_2, mCallO, lenO, runO, mRetO, mLst, mIf, mUn, dNegI, mFmt, ratE, d2, this]
    have hm : m_Ratio___repr__ = mRet (mJs [(mC (.str "Ratio(")), (mFmt (mCall (lenM 1 d_digits_of) (mCons (mFld 0 0 (mVar 0)) mNil))), (mC (.str ", ")), (mFmt (mCall (lenM 1 d_digits_of) (mCons (mFld 0 1 (mVar 0)) mNil))), (mC (.str ")"))]) := rfl
    generalize mFmt (mCall (lenM 1 d_digits_of) (mCons (mFld 0 0 (mVar 0)) mNil)) = a1 at *
    generalize mFmt (mCall (lenM 1 d_digits_of) (mCons (mFld 0 1 (mVar 0)) mNil)) = a2 at *
    have c1 : (Str.empty ++ ("Ratio(" : Str)).length ≤ 10000000 := by rw [strLen_append]; omega
    have c2 : (Str.empty ++ ("Ratio(" : Str) ++ s1).length ≤ 10000000 := by rw [strLen_append, strLen_append]; omega
    have c3 : (Str.empty ++ ("Ratio(" : Str) ++ s1 ++ (", " : Str)).length ≤ 10000000 := by rw [strLen_append, strLen_append, strLen_append]; omega
    have c4 : (Str.empty ++ ("Ratio(" : Str) ++ s1 ++ (", " : Str) ++ s2).length ≤ 10000000 := by rw [strLen_append, strLen_append, strLen_append, strLen_append]; omega
    have c5 : (Str.empty ++ ("Ratio(" : Str) ++ s1 ++ (", " : Str) ++ s2 ++ (")" : Str)).length ≤ 10000000 := by rw [strLen_append, strLen_append, strLen_append, strLen_append, strLen_append]; omega
    rw [← ratE]
    simp only [d_Ratio___repr__, runD, env0, hm, mRet, mJs, mJoin, mC, DL.bindM, retM, f1, f2, c1, c2, c3, c4, c5, if_true, List.map_cons, List.map_nil, List.replicate, List.length_cons, List.length_nil, List.cons_append, List.nil_append, Nat.reduceSub, Nat.reduceAdd, Nat.sub_self, List.append_nil]
  · rw [strLen_append, strLen_append, strLen_append, strLen_append, strLen_append]
    omega
theorem int_text {n : Int} (h : n.natAbs < 10 ^ 60) : (Str.ofString (toString n)).length ≤ 61 := by
  by_cases h0 : 0 ≤ n
  · have := len_nat h
    rw [show (n.natAbs : Int) = n by omega] at this
    omega
  · obtain ⟨m, hm⟩ : ∃ m : Nat, n = Int.negSucc m := by
      cases n with
      | ofNat k => exact absurd (Int.natCast_nonneg k) h0
      | negSucc m => exact ⟨m, rfl⟩
    subst hm
    have e : toString (Int.negSucc m) = "-" ++ toString ((m + 1 : Nat) : Int) := rfl
    have := len_nat (n := m + 1) h
    rw [e, PySem.ofString_length, String.length_append]
    rw [PySem.ofString_length] at this
    have e1 : ("-" : String).length = 1 := rfl
    omega
end Q
end

section
set_option Elab.async false
set_option linter.all false
set_option maxRecDepth 100000
set_option maxHeartbeats 4000000
set_option exponentiation.threshold 20000
/-! k42: what can be shown. -/
namespace Q
open DL PySem PyProof.Rows
theorem list_len (ts : List Str) : (listText ts).length ≤ piled ts + 4 := by
  cases ts with
  | nil => decide
  | cons t r =>
    have h := textFrom_length_pos r 1 (("[" : Str) ++ (if (0 : Nat) > 0 then ", " else "" : String) ++ t) (Nat.succ_pos 0)
    have e : ((("[" : Str) ++ (if (0 : Nat) > 0 then ", " else "" : String) ++ t)).length = 1 + t.length := by
      rw [strLen_append, strLen_append]; rfl
    have hX : (listText (t :: r)).length = (textFrom 0 "[" (t :: r)).length + 1 := by
      show (textFrom 0 "[" (t :: r) ++ "]").length = _
      rw [strLen_append]; rfl
    have hY : (textFrom 0 "[" (t :: r)).length = (textFrom 1 (("[" : Str) ++ (if (0 : Nat) > 0 then ", " else "" : String) ++ t) r).length := rfl
    rw [hX, hY, h, e, piled_cons]; omega
theorem tuple_len (ts : List Str) : (tupleText ts).length ≤ piled ts + 4 := by
  unfold tupleText
  rw [strLen_append, strLen_append]
  have e1 : ((("(" : String) : Str)).length = 1 := rfl
  have e3 : (((if ts.length == 1 then ",)" else ")" : String) : Str)).length ≤ 2 := by split <;> decide
  rw [e1]
  by_cases h : ts = []
  · subst h
    have : (Str.join ", " ([] : List Str)).length = 0 := rfl
    omega
  · have := join_length_add ts h
    omega
/-- d can be shown at n levels, in at most B signs -/
def Rp (n B : Nat) (d : D) : Prop := ∃ t, repT ur n d = some t ∧ t.length ≤ B
theorem Rp.mono {n B B' : Nat} {d : D} (h : Rp n B d) (hb : B ≤ B') : Rp n B' d := by
  obtain ⟨t, h1, h2⟩ := h
  exact ⟨t, h1, Nat.le_trans h2 hb⟩
theorem repL_all {f : D → Option Str} {b : Nat} : ∀ {ds : List D}, (∀ d ∈ ds, ∃ t, f d = some t ∧ t.length ≤ b) → ∃ ts, repL f ds = some ts ∧ piled ts ≤ (b + 2) * ds.length
  | [], _ => ⟨[], rfl, Nat.zero_le _⟩
  | d :: ds, h => by
    obtain ⟨ts, h1, h2⟩ := repL_all (ds := ds) fun e he => h e (List.mem_cons_of_mem _ he)
    obtain ⟨t, h3, h4⟩ := h d List.mem_cons_self
    refine ⟨t :: ts, ?_, ?_⟩
    · unfold repL
      rw [h3, h1]
    · rw [piled_cons, List.length_cons, Nat.mul_succ]
      omega
theorem Rp.lst {n b B : Nat} {ds : List D} (h : ∀ d ∈ ds, Rp n b d) (hB : (b + 2) * ds.length + 4 ≤ B) : Rp (n + 1) B (.lst ds) := by
  obtain ⟨ts, h1, h2⟩ := repL_all h
  refine ⟨listText ts, ?_, Nat.le_trans (list_len ts) (by omega)⟩
  show (match repL (repT ur n) ds with | some ts => some (listText ts) | none => none) = _
  rw [h1]
theorem Rp.tup {n b B : Nat} {ds : List D} (h : ∀ d ∈ ds, Rp n b d) (hB : (b + 2) * ds.length + 4 ≤ B) : Rp (n + 1) B (.tup ds) := by
  obtain ⟨ts, h1, h2⟩ := repL_all h
  refine ⟨tupleText ts, ?_, Nat.le_trans (tuple_len ts) (by omega)⟩
  show (match repL (repT ur n) ds with | some ts => some (tupleText ts) | none => none) = _
  rw [h1]
theorem len_nat22 {n : Nat} (h : n < 10 ^ 22) : (Str.ofString (toString (n : Int))).length ≤ 22 :=
  toString_length_le (by omega) (by decide) (by exact_mod_cast h)
theorem int_text22 {n : Int} (h : n.natAbs < 10 ^ 22) : (Str.ofString (toString n)).length ≤ 23 := by
  by_cases h0 : 0 ≤ n
  · have := len_nat22 h
    rw [show (n.natAbs : Int) = n by omega] at this
    omega
  · obtain ⟨m, hm⟩ : ∃ m : Nat, n = Int.negSucc m := by
      cases n with
      | ofNat k => exact absurd (Int.natCast_nonneg k) h0
      | negSucc m => exact ⟨m, rfl⟩
    subst hm
    have e : toString (Int.negSucc m) = "-" ++ toString ((m + 1 : Nat) : Int) := rfl
    have := len_nat22 (n := m + 1) h
    rw [e, PySem.ofString_length, String.length_append]
    rw [PySem.ofString_length] at this
    have e1 : ("-" : String).length = 1 := rfl
    omega
/-- flat ones -/
inductive Fl : D → Prop where
  | non : Fl .non
  | bl (b : Bool) : Fl (.bl b)
  | int (i : Int) (h : i.natAbs < 10 ^ 22) : Fl (.int i)
  | str (x : Str) (h : (reprText x).length ≤ 24) : Fl (.str x)
theorem Fl.text {d : D} (h : Fl d) : ∃ t, flT d = some t ∧ t.length ≤ 24 := by
  cases h with
  | non => exact ⟨_, rfl, by decide⟩
  | bl b => exact ⟨_, rfl, by cases b <;> decide⟩
  | int i h =>
    refine ⟨_, ?_, Nat.le_trans (int_text22 h) (by decide)⟩
    unfold flT
    dsimp only
    rw [if_pos (log_lt (Nat.lt_trans h (by decide +kernel)))]
  | str x h => exact ⟨_, rfl, h⟩
theorem Fl.rp {d : D} (h : Fl d) (n : Nat) : Rp n 24 d := by
  obtain ⟨t, h1, h2⟩ := h.text
  refine ⟨t, ?_, h2⟩
  cases n with
  | zero => exact h1
  | succ n => cases h <;> exact h1
/-- nested at most n deep, lists of at most m items -/
inductive Nc (m : Nat) : Nat → D → Prop where
  | flat {n : Nat} {d : D} (h : Fl d) : Nc m n d
  | ed {n : Nat} : Nc m (n + 1) .ed
  | rt {n : Nat} (x : Rat) (h : Sz x) : Nc m (n + 1) (rat x)
  | lst {n : Nat} {ds : List D} (hl : ds.length ≤ m) (h : ∀ d ∈ ds, Nc m n d) : Nc m (n + 1) (.lst ds)
  | tup {n : Nat} {ds : List D} (hl : ds.length ≤ m) (h : ∀ d ∈ ds, Nc m n d) : Nc m (n + 1) (.tup ds)
def Wb (m : Nat) : Nat → Nat
  | 0 => 24
  | n + 1 => (Wb m n + 2) * m + 200
theorem wb_ge (m : Nat) (hm : 0 < m) : ∀ n, 24 ≤ Wb m n
  | 0 => Nat.le_refl _
  | n + 1 => by
    show 24 ≤ (Wb m n + 2) * m + 200
    omega
theorem Nc.rp {m : Nat} (hm : 0 < m) (k : Nat) : ∀ {n : Nat} {d : D}, Nc m n d → Rp (n + k) (Wb m n) d
  | n, d, h => by
    induction h with
    | flat h => exact (h.rp _).mono (wb_ge m hm _)
    | @ed n =>
      rw [Nat.add_right_comm]
      exact ⟨dictText [], rfl, Nat.le_trans (by decide : (dictText []).length ≤ 24) (wb_ge m hm _)⟩
    | @rt n x h =>
      obtain ⟨t, h1, h2⟩ := ratio_text h
      rw [Nat.add_right_comm]
      exact ⟨t, h1, Nat.le_trans h2 (by show 200 ≤ (Wb m n + 2) * m + 200; omega)⟩
    | @lst n ds hl h ih =>
      rw [Nat.add_right_comm]
      exact Rp.lst ih (by show _ ≤ (Wb m n + 2) * m + 200; have := Nat.mul_le_mul_left (Wb m n + 2) hl; omega)
    | @tup n ds hl h ih =>
      rw [Nat.add_right_comm]
      exact Rp.tup ih (by show _ ≤ (Wb m n + 2) * m + 200; have := Nat.mul_le_mul_left (Wb m n + 2) hl; omega)
theorem Nc.up {m n : Nat} {d : D} (h : Nc m n d) : Nc m (n + 1) d := by
  induction h with
  | flat h => exact .flat h
  | ed => exact .ed
  | rt x h => exact .rt x h
  | lst hl h ih => exact .lst hl ih
  | tup hl h ih => exact .tup hl ih
theorem Nc.up2 {m n : Nat} {d : D} (h : Nc m n d) : Nc m (n + 2) d := h.up.up
theorem Nc.upn {m n : Nat} {d : D} (h : Nc m n d) : ∀ k, Nc m (n + k) d
  | 0 => h
  | k + 1 => (h.upn k).up
theorem Nc.mono {m m' n : Nat} {d : D} (h : Nc m n d) (hm : m ≤ m') : Nc m' n d := by
  induction h with
  | flat h => exact .flat h
  | ed => exact .ed
  | rt x h => exact .rt x h
  | lst hl h ih => exact .lst (Nat.le_trans hl hm) ih
  | tup hl h ih => exact .tup (Nat.le_trans hl hm) ih
theorem Nc.nopot {m n : Nat} {d : D} (h : Nc m n d) : d ≠ .pot := by
  intro z
  subst z
  cases h with
  | flat h => cases h
/-- repr(d), d of one kind -/
theorem rp_repr {B : Nat} {d : D} (h : Rp 4 B d) (hB : B ≤ 10000000) : ∃ t, cReprU [d] = retM (.str t) := by
  obtain ⟨t, h1, h2⟩ := h
  have hz : t.length ≤ 10000000 := by omega
  cases d with
  | non => exact ⟨_, rfl⟩
  | bl b => exact ⟨_, rfl⟩
  | int i =>
    have h3 : flT (.int i) = some t := h1
    unfold flT at h3
    dsimp only at h3
    split at h3
    · rename_i hi
      exact ⟨_, by unfold cReprU cRepr; dsimp only; rw [if_pos hi]⟩
    · cases h3
  | str x =>
    have h3 : some (reprText x) = some t := h1
    cases h3
    exact ⟨_, by unfold cReprU cRepr; dsimp only; rw [if_pos hz]⟩
  | lst ds => exact ⟨t, by unfold cReprU cRepr; dsimp only; rw [h1]; dsimp only; rw [if_pos hz]⟩
  | tup ds => exact ⟨t, by unfold cReprU cRepr; dsimp only; rw [h1]; dsimp only; rw [if_pos hz]⟩
  | ins c fs => exact ⟨t, by unfold cReprU cRepr; dsimp only; rw [h1]; dsimp only; rw [if_pos hz]⟩
  | pot => cases h1
  | ed => exact ⟨t, by unfold cReprU cRepr; dsimp only; rw [h1]; dsimp only; rw [if_pos hz]⟩
theorem Nc.repr {m n : Nat} {d : D} (h : Nc m n d) (hm : 0 < m) (hn : n ≤ 4) (hW : Wb m n ≤ 10000000) : ∃ t, cReprU [d] = retM (.str t) := by
  have h4 := h.rp hm (4 - n)
  rw [show n + (4 - n) = 4 by omega] at h4
  exact rp_repr h4 hW
end Q
end

section
set_option Elab.async false
set_option linter.all false
set_option maxRecDepth 100000
set_option maxHeartbeats 4000000
set_option exponentiation.threshold 20000
/-! k42: kinds of values, deals. -/
namespace Q
open DL PySem PyProof.Rows
theorem comp_map {α : Type} {i : Nat} {e : Env' → Mo D} {env : Env'} {F g : α → D} : ∀ {l : List α}, (∀ j ∈ l, e (env.set i (.val (F j))) = retM (g j)) → compM (tgN i) mYes e env (l.map F) = retM (l.map g)
  | [], _ => rfl
  | d :: ds, h => by
    rw [List.map_cons]
    unfold compM
    show DL.bindM (mYes (env.set i (.val (F d)))) _ = _
    rw [show mYes (env.set i (.val (F d))) = retM true from rfl, bindM_ret, if_pos rfl, h d List.mem_cons_self, bindM_ret, comp_map fun d' h' => h d' (List.mem_cons_of_mem _ h')]
    rfl
theorem comp_id {i : Nat} {e : Env' → Mo D} {env : Env'} {g : D → D} {l : List D} (h : ∀ j ∈ l, e (env.set i (.val j)) = retM (g j)) : compM (tgN i) mYes e env l = retM (l.map g) := by
  have := comp_map (F := id) (g := g) (e := e) (env := env) (i := i) (l := l) h
  rw [List.map_id] at this
  exact this
theorem bls_map (f : D → Bool) : ∀ ds : List D, blsD (ds.map fun d => .bl (f d)) = some (ds.map f)
  | [] => rfl
  | d :: ds => by
    rw [List.map_cons, List.map_cons]
    unfold blsD
    rw [bls_map f ds]
theorem all_eq {i : Nat} {src : Env' → Mo (List D)} {e : Env' → Mo D} {env : Env'} {ds : List D} {f : D → Bool} (hs : src env = retM ds) (hl : ds.length ≤ 100000) (he : ∀ d ∈ ds, e ((wipeE env [i]).set i (.val d)) = retM (.bl (f d))) : mCall cAll (mCons (mLst (mLc src [i] (tgN i) mYes e)) mNil) env = retM (.bl (ds.all f)) := by
  have h1 := comp_id (g := fun d => .bl (f d)) he
  have h2 : mLc src [i] (tgN i) mYes e env = retM (ds.map fun d => .bl (f d)) := by
    unfold mLc
    rw [hs, bindM_ret, if_pos hl, h1]
  have h3 : cAll [.lst (ds.map fun d => .bl (f d))] = retM (.bl (ds.all f)) := by
    unfold cAll
    dsimp only
    rw [bls_map]
    dsimp only
    congr 2
    induction ds with
    | nil => rfl
    | cons d ds ih => simp [runD, env0, mSeq, mIfS, mNot, mB, mIsC, mVar, isC, mRet, mC, mTV, mAnd, mOr, mBin, mFld, dEqF, flV, retM, DL.bindM, mNx, mCall, lenM, mCons, mNil, mTup, mIsT, isT, mSet, mAsg, tgTup, tgCons, tgN, tgNil, mk_Ratio_1, mk_Ratio_2, mCallO, lenO, runO, mRetO, mLst, mIf, mUn, dNegI, mIsT2, mNoP, mPart, oListC, mDrop, mNever]
  funext p
  simp [runD, env0, mSeq, mIfS, mNot, mB, mIsC, mVar, isC, mRet, mC, mTV, mAnd, mOr, mBin, mFld, dEqF, flV, retM, DL.bindM, mNx, mCall, lenM, mCons, mNil, mTup, mIsT, isT, mSet, mAsg, tgTup, tgCons, tgN, tgNil, mk_Ratio_1, mk_Ratio_2, mCallO, lenO, runO, mRetO, mLst, mIf, mUn, dNegI, mIsT2, mNoP, mPart, oListC, mDrop, mNever, h2, h3]
def isI : D → Bool
  | .int _ => true
  | _ => false
def isN : D → Bool
  | .int i => decide (0 ≤ i)
  | _ => false
def cntB (m : Int) : D → Bool
  | .int i => decide (0 ≤ i) && decide (i ≤ m)
  | _ => false
def itemsD : D → Option (List D)
  | .lst ds => some ds
  | .tup ds => some ds
  | _ => none
theorem isint_eq {d : D} (h : d ≠ .pot) : d_is_integer [d] = retM (.bl (isI d)) := by
  funext p
  cases d <;> first | exact absurd rfl h | simp [runD, env0, mSeq, mIfS, mNot, mB, mIsC, mVar, isC, mRet, mC, mTV, mAnd, mOr, mBin, mFld, dEqF, flV, retM, DL.bindM, mNx, mCall, lenM, mCons, mNil, mTup, mIsT, isT, mSet, mAsg, tgTup, tgCons, tgN, tgNil, mk_Ratio_1, mk_Ratio_2, mCallO, lenO, runO, mRetO, mLst, mIf, mUn, dNegI, mIsT2, mNoP, mPart, oListC, mDrop, mNever, d_is_integer, m_is_integer, isI]
theorem iscount_eq {d : D} (h : d ≠ .pot) : d_is_count [d] = retM (.bl (isN d)) := by
  have h1 := isint_eq h
  funext p
  cases d <;> first | exact absurd rfl h | simp [runD, env0, mSeq, mIfS, mNot, mB, mIsC, mVar, isC, mRet, mC, mTV, mAnd, mOr, mBin, mFld, dEqF, flV, retM, DL.bindM, mNx, mCall, lenM, mCons, mNil, mTup, mIsT, isT, mSet, mAsg, tgTup, tgCons, tgN, tgNil, mk_Ratio_1, mk_Ratio_2, mCallO, lenO, runO, mRetO, mLst, mIf, mUn, dNegI, mIsT2, mNoP, mPart, oListC, mDrop, mNever, d_is_count, m_is_count, h1, isI, isN, dGe, dII]
theorem lawcnt_eq {d : D} (h : d ≠ .pot) (m : Int) : d__law_is_count [d, .int m] = retM (.bl (cntB m d)) := by
  funext p
  cases d <;> first | exact absurd rfl h | simp [runD, env0, mSeq, mIfS, mNot, mB, mIsC, mVar, isC, mRet, mC, mTV, mAnd, mOr, mBin, mFld, dEqF, flV, retM, DL.bindM, mNx, mCall, lenM, mCons, mNil, mTup, mIsT, isT, mSet, mAsg, tgTup, tgCons, tgN, tgNil, mk_Ratio_1, mk_Ratio_2, mCallO, lenO, runO, mRetO, mLst, mIf, mUn, dNegI, mIsT2, mNoP, mPart, oListC, mDrop, mNever, d__law_is_count, m__law_is_count, cntB, mChain, dLe, dII]
  rename_i i
  by_cases h1 : 0 ≤ i <;> simp [runD, env0, mSeq, mIfS, mNot, mB, mIsC, mVar, isC, mRet, mC, mTV, mAnd, mOr, mBin, mFld, dEqF, flV, retM, DL.bindM, mNx, mCall, lenM, mCons, mNil, mTup, mIsT, isT, mSet, mAsg, tgTup, tgCons, tgN, tgNil, mk_Ratio_1, mk_Ratio_2, mCallO, lenO, runO, mRetO, mLst, mIf, mUn, dNegI, mIsT2, mNoP, mPart, oListC, mDrop, mNever, h1]
theorem islist_eq {d : D} (h : d ≠ .pot) : d_is_list [d] = retM (.bl (itemsD d).isSome) := by
  funext p
  cases d <;> first | exact absurd rfl h | simp [runD, env0, mSeq, mIfS, mNot, mB, mIsC, mVar, isC, mRet, mC, mTV, mAnd, mOr, mBin, mFld, dEqF, flV, retM, DL.bindM, mNx, mCall, lenM, mCons, mNil, mTup, mIsT, isT, mSet, mAsg, tgTup, tgCons, tgN, tgNil, mk_Ratio_1, mk_Ratio_2, mCallO, lenO, runO, mRetO, mLst, mIf, mUn, dNegI, mIsT2, mNoP, mPart, oListC, mDrop, mNever, d_is_list, m_is_list, itemsD]
theorem ist2_eq {d : D} (h : d ≠ .pot) (env : Env') (i : Nat) (hv : env[i]? = some (.val d)) : mIsT2 "list" "tuple" (mVar i) env = retM (.bl (itemsD d).isSome) := by
  funext p
  cases d <;> first | exact absurd rfl h | simp [runD, env0, mSeq, mIfS, mNot, mB, mIsC, mVar, isC, mRet, mC, mTV, mAnd, mOr, mBin, mFld, dEqF, flV, retM, DL.bindM, mNx, mCall, lenM, mCons, mNil, mTup, mIsT, isT, mSet, mAsg, tgTup, tgCons, tgN, tgNil, mk_Ratio_1, mk_Ratio_2, mCallO, lenO, runO, mRetO, mLst, mIf, mUn, dNegI, mIsT2, mNoP, mPart, oListC, mDrop, mNever, hv, itemsD]
/-! ### lists of ints -/
def rngI (n : Nat) : List Int := (List.range n).map fun i => ((i : Nat) : Int)
theorem rng_eq (n : Nat) : rngD 0 n = (rngI n).map D.int := by
  unfold rngD rngI
  rw [List.map_map]
  refine List.map_congr_left fun i _ => ?_
  show D.int (0 + (i : Nat)) = D.int (i : Nat)
  rw [Int.zero_add]
theorem rngI_len (n : Nat) : (rngI n).length = n := by unfold rngI; simp [runD, env0, mSeq, mIfS, mNot, mB, mIsC, mVar, isC, mRet, mC, mTV, mAnd, mOr, mBin, mFld, dEqF, flV, retM, DL.bindM, mNx, mCall, lenM, mCons, mNil, mTup, mIsT, isT, mSet, mAsg, tgTup, tgCons, tgN, tgNil, mk_Ratio_1, mk_Ratio_2, mCallO, lenO, runO, mRetO, mLst, mIf, mUn, dNegI, mIsT2, mNoP, mPart, oListC, mDrop, mNever]
theorem eqL_ints (k : Nat) : ∀ (as bs : List Int), as.length = bs.length → eqL (deq uq (k + 1)) (as.map D.int) (bs.map D.int) = some (decide (as = bs))
  | [], [], _ => rfl
  | [], _ :: _, h => by simp [runD, env0, mSeq, mIfS, mNot, mB, mIsC, mVar, isC, mRet, mC, mTV, mAnd, mOr, mBin, mFld, dEqF, flV, retM, DL.bindM, mNx, mCall, lenM, mCons, mNil, mTup, mIsT, isT, mSet, mAsg, tgTup, tgCons, tgN, tgNil, mk_Ratio_1, mk_Ratio_2, mCallO, lenO, runO, mRetO, mLst, mIf, mUn, dNegI, mIsT2, mNoP, mPart, oListC, mDrop, mNever] at h
  | _ :: _, [], h => by simp [runD, env0, mSeq, mIfS, mNot, mB, mIsC, mVar, isC, mRet, mC, mTV, mAnd, mOr, mBin, mFld, dEqF, flV, retM, DL.bindM, mNx, mCall, lenM, mCons, mNil, mTup, mIsT, isT, mSet, mAsg, tgTup, tgCons, tgN, tgNil, mk_Ratio_1, mk_Ratio_2, mCallO, lenO, runO, mRetO, mLst, mIf, mUn, dNegI, mIsT2, mNoP, mPart, oListC, mDrop, mNever] at h
  | a :: as, b :: bs, h => by
    rw [List.map_cons, List.map_cons]
    unfold eqL
    have h1 : deq uq (k + 1) (.int a) (.int b) = some (a == b) := rfl
    rw [h1]
    by_cases hab : a = b
    · subst hab
      rw [show (a == a) = true by simp [runD, env0, mSeq, mIfS, mNot, mB, mIsC, mVar, isC, mRet, mC, mTV, mAnd, mOr, mBin, mFld, dEqF, flV, retM, DL.bindM, mNx, mCall, lenM, mCons, mNil, mTup, mIsT, isT, mSet, mAsg, tgTup, tgCons, tgN, tgNil, mk_Ratio_1, mk_Ratio_2, mCallO, lenO, runO, mRetO, mLst, mIf, mUn, dNegI, mIsT2, mNoP, mPart, oListC, mDrop, mNever]]
      dsimp only
      rw [eqL_ints k as bs (by simpa [runD, env0, mSeq, mIfS, mNot, mB, mIsC, mVar, isC, mRet, mC, mTV, mAnd, mOr, mBin, mFld, dEqF, flV, retM, DL.bindM, mNx, mCall, lenM, mCons, mNil, mTup, mIsT, isT, mSet, mAsg, tgTup, tgCons, tgN, tgNil, mk_Ratio_1, mk_Ratio_2, mCallO, lenO, runO, mRetO, mLst, mIf, mUn, dNegI, mIsT2, mNoP, mPart, oListC, mDrop, mNever] using h)]
      simp [runD, env0, mSeq, mIfS, mNot, mB, mIsC, mVar, isC, mRet, mC, mTV, mAnd, mOr, mBin, mFld, dEqF, flV, retM, DL.bindM, mNx, mCall, lenM, mCons, mNil, mTup, mIsT, isT, mSet, mAsg, tgTup, tgCons, tgN, tgNil, mk_Ratio_1, mk_Ratio_2, mCallO, lenO, runO, mRetO, mLst, mIf, mUn, dNegI, mIsT2, mNoP, mPart, oListC, mDrop, mNever]
    · rw [show (a == b) = false by simp [runD, env0, mSeq, mIfS, mNot, mB, mIsC, mVar, isC, mRet, mC, mTV, mAnd, mOr, mBin, mFld, dEqF, flV, retM, DL.bindM, mNx, mCall, lenM, mCons, mNil, mTup, mIsT, isT, mSet, mAsg, tgTup, tgCons, tgN, tgNil, mk_Ratio_1, mk_Ratio_2, mCallO, lenO, runO, mRetO, mLst, mIf, mUn, dNegI, mIsT2, mNoP, mPart, oListC, mDrop, mNever, hab]]
      simp [runD, env0, mSeq, mIfS, mNot, mB, mIsC, mVar, isC, mRet, mC, mTV, mAnd, mOr, mBin, mFld, dEqF, flV, retM, DL.bindM, mNx, mCall, lenM, mCons, mNil, mTup, mIsT, isT, mSet, mAsg, tgTup, tgCons, tgN, tgNil, mk_Ratio_1, mk_Ratio_2, mCallO, lenO, runO, mRetO, mLst, mIf, mUn, dNegI, mIsT2, mNoP, mPart, oListC, mDrop, mNever, hab]
theorem eq_ints (ne : Bool) (as bs : List Int) : dEqU ne (.lst (as.map .int)) (.lst (bs.map .int)) = retM (.bl (decide (as = bs) != ne)) := by
  unfold dEqU dEqR
  have key : dEqO uq 3 ne (.lst (as.map .int)) (.lst (bs.map .int)) = retM (.bl (decide (as = bs) != ne)) := by
    have : deq uq 4 (.lst (as.map D.int)) (.lst (bs.map D.int)) = some (decide (as = bs)) := by
      show (if (as.map D.int).length = (bs.map D.int).length then eqL (deq uq 3) (as.map D.int) (bs.map D.int) else some false) = _
      rw [List.length_map, List.length_map]
      split
      · rename_i h
        exact eqL_ints 2 as bs h
      · rename_i h
        rw [decide_eq_false (fun z => h (by rw [z]))]
    unfold dEqO
    simp only [isIns, Bool.false_and, Bool.false_eq_true, if_false, this]
  rw [dOr_ret (a := .bl (decide (as = bs) != ne))]
  rw [dOr_fail (by rfl)]
  exact key
theorem intsD_map : ∀ ns : List Int, intsD (ns.map D.int) = some ns
  | [] => rfl
  | n :: ns => by
    rw [List.map_cons]
    unfold intsD
    rw [intsD_map ns]
theorem intsD_of : ∀ {ds : List D}, ds.all isI = true → ∃ ns : List Int, ds = ns.map D.int
  | [], _ => ⟨[], rfl⟩
  | d :: ds, h => by
    rw [List.all_cons, Bool.and_eq_true] at h
    obtain ⟨ns, rfl⟩ := intsD_of h.2
    cases d <;> first | (cases h.1; done) | skip
    rename_i i
    exact ⟨i :: ns, rfl⟩
theorem sorted_lst (ns : List Int) : cSorted [.lst (ns.map .int)] = retM (.lst ((sortI ns).map .int)) := by
  unfold cSorted
  dsimp only
  rw [intsD_map]
theorem sorted_tup (ns : List Int) : cSorted [.tup (ns.map .int)] = retM (.lst ((sortI ns).map .int)) := by
  unfold cSorted
  dsimp only
  rw [intsD_map]
end Q
end

section
set_option Elab.async false
set_option linter.all false
set_option maxRecDepth 100000
set_option maxHeartbeats 4000000
set_option exponentiation.threshold 20000
/-! k42: deals. -/
namespace Q
open DL PySem PyProof.Rows
theorem sortI_perm (ns : List Int) : (sortI ns).Perm ns := List.mergeSort_perm ns _
def dealB (p : Nat) (v : D) : Bool := match itemsD v with
  | some ds => match intsD ds with
    | some ns => decide (sortI ns = rngI (p * p))
    | none => false
  | none => false
theorem intsD_inv : ∀ {ds : List D} {ns : List Int}, intsD ds = some ns → ds = ns.map D.int
  | [], ns, h => by cases h; rfl
  | d :: ds, ns, h => by
    cases d <;> first | (cases h; done) | skip
    rename_i i
    unfold intsD at h
    rcases z : intsD ds with _ | ms
    · rw [z] at h; cases h
    · rw [z] at h
      cases h
      rw [intsD_inv z]; rfl
theorem rngI_mem {n : Nat} {i : Int} (h : i ∈ rngI n) : 0 ≤ i ∧ i < n := by
  unfold rngI at h
  obtain ⟨j, hj, rfl⟩ := List.mem_map.mp h
  have := List.mem_range.mp hj
  omega
theorem deal_mem {p : Nat} {ns : List Int} (h : sortI ns = rngI (p * p)) {i : Int} (hi : i ∈ ns) : 0 ≤ i ∧ i < ((p * p : Nat) : Int) := by
  have h1 : i ∈ sortI ns := (sortI_perm ns).mem_iff.mpr hi
  rw [h] at h1
  exact rngI_mem h1
theorem deal_len {p : Nat} {ns : List Int} (h : sortI ns = rngI (p * p)) : ns.length = p * p := by
  have h1 := (sortI_perm ns).length_eq
  rw [h, rngI_len] at h1
  exact h1.symm
theorem items_cases {v : D} {ds : List D} (h : itemsD v = some ds) : v = .lst ds ∨ v = .tup ds := by
  cases v <;> first | (cases h; done) | (cases h; first | exact .inl rfl | exact .inr rfl)
theorem sorted_items {v : D} {ns : List Int} (h : itemsD v = some (ns.map .int)) : cSorted [v] = retM (.lst ((sortI ns).map .int)) := by
  rcases items_cases h with rfl | rfl
  · exact sorted_lst ns
  · exact sorted_tup ns
theorem len_items {v : D} {ds : List D} (h : itemsD v = some ds) : cLen [v] = retM (.int (ds.length : Nat)) := by
  rcases items_cases h with rfl | rfl <;> rfl
theorem src_items {v : D} {ds : List D} (h : itemsD v = some ds) {m : Env' → Mo D} {env : Env'} (hm : m env = retM v) : srcS m env = retM ds := by
  unfold srcS
  rw [hm, bindM_ret]
  rcases items_cases h with rfl | rfl <;> rfl
theorem mulP (p : Nat) (hp : p ≤ 11) : dMulI (.int p) (.int p) = retM (.int ((p * p : Nat) : Int)) := by
  have hz : p < bigN := Nat.lt_of_le_of_lt hp (by unfold bigN; decide +kernel)
  funext q
  simp [runD, env0, mSeq, mIfS, mNot, mB, mIsC, mVar, isC, mRet, mC, mTV, mAnd, mOr, mBin, mFld, dEqF, flV, retM, DL.bindM, mNx, mCall, lenM, mCons, mNil, mTup, mIsT, isT, mSet, mAsg, tgTup, tgCons, tgN, tgNil, mk_Ratio_1, mk_Ratio_2, mCallO, lenO, runO, mRetO, mLst, mIf, mUn, dNegI, mIsT2, mNoP, mPart, oListC, mDrop, mNever, dMulI, dII, hz]
theorem sq_le {p : Nat} (hp : p ≤ 11) : p * p ≤ 121 := Nat.mul_le_mul hp hp
theorem rg1 {e : Env' → Mo D} {env : Env'} {n : Nat} (h : e env = retM (.int (n : Nat))) (hn : n ≤ 1000) : oRg1 e env = retM ((rngI n).map .int) := by
  unfold oRg1
  rw [h, bindM_ret]
  dsimp only
  rw [if_pos (by omega), Int.toNat_natCast, rng_eq]
/-- values of which the kinds can be told -/
def Kd (v : D) : Prop := v ≠ .pot ∧ ∀ ds, itemsD v = some ds → ds.length ≤ 100000 ∧ ∀ d ∈ ds, d ≠ .pot
theorem deal_of {p : Nat} (hp : p ≤ 11) {v : D} {ns : List Int} (h : itemsD v = some (ns.map .int)) : d_is_deal_of [.int p, v] = retM (.bl (decide (sortI ns = rngI (p * p)))) := by
  have h1 := sorted_items h
  have h2 := mulP p hp
  have h3 : oRg1 (mBin dMulI (mVar 0) (mVar 0)) [.val (.int (p : Nat)), .val v] = retM ((rngI (p * p)).map .int) := rg1 (by funext q; simp [runD, env0, mSeq, mIfS, mNot, mB, mIsC, mVar, isC, mRet, mC, mTV, mAnd, mOr, mBin, mFld, dEqF, flV, retM, DL.bindM, mNx, mCall, lenM, mCons, mNil, mTup, mIsT, isT, mSet, mAsg, tgTup, tgCons, tgN, tgNil, mk_Ratio_1, mk_Ratio_2, mCallO, lenO, runO, mRetO, mLst, mIf, mUn, dNegI, mIsT2, mNoP, mPart, oListC, mDrop, mNever, h2]) (Nat.le_trans (sq_le hp) (by decide))
  have h4 := eq_ints false (sortI ns) (rngI (p * p))
  rw [show (decide (sortI ns = rngI (p * p)) != false) = decide (sortI ns = rngI (p * p)) by cases decide (sortI ns = rngI (p * p)) <;> rfl] at h4
  have hm : m_is_deal_of = mRet (mBin (dEqU false) (mCall cSorted (mCons (mVar 1) mNil)) (mLst (oRg1 (mBin dMulI (mVar 0) (mVar 0))))) := rfl
  generalize oRg1 (mBin dMulI (mVar 0) (mVar 0)) = rg at *
  funext q
  simp [runD, env0, mSeq, mIfS, mNot, mB, mIsC, mVar, isC, mRet, mC, mTV, mAnd, mOr, mBin, mFld, dEqF, flV, retM, DL.bindM, mNx, mCall, lenM, mCons, mNil, mTup, mIsT, isT, mSet, mAsg, tgTup, tgCons, tgN, tgNil, mk_Ratio_1, mk_Ratio_2, mCallO, lenO, runO, mRetO, mLst, mIf, mUn, dNegI, mIsT2, mNoP, mPart, oListC, mDrop, mNever, d_is_deal_of, hm, h1, h3, h4]
theorem all_n {ns : List Int} : (ns.map D.int).all isN = ns.all fun i => decide (0 ≤ i) := by
  rw [List.all_map]; rfl
theorem isN_isI {ds : List D} (h : ds.all isN = true) : ds.all isI = true := by
  rw [List.all_eq_true] at *
  intro d hd
  have := h d hd
  cases d <;> first | rfl | cases this
theorem deal_prog {p : Nat} (hp : p ≤ 11) {v : D} (hv : Kd v) : d_is_dealt [.int p, v] = retM (.bl (dealB p v)) := by
  have h1 := islist_eq hv.1
  have h2 := mulP p hp
  have hm : m_is_dealt = mSeq (mIfS (mOr (mNot (mB (mCall (lenM 1 d_is_list) (mCons (mVar 1) mNil)))) (mOr (mB (mBin (dEqF true) (mCall cLen (mCons (mVar 1) mNil)) (mBin dMulI (mVar 0) (mVar 0)))) (mNot (mB (mCall cAll (mCons (mLst (mLc (srcS (mVar 1)) [2] (tgN 2) mYes (mCall (lenM 1 d_is_count) (mCons (mVar 2) mNil)))) mNil)))))) (mRet (mC (.bl false))) mNx) (mRet (mCall (lenM 2 d_is_deal_of) (mCons (mVar 0) (mCons (mVar 1) mNil)))) := rfl
  rcases hi : itemsD v with _ | ds
  · have hb : dealB p v = false := by unfold dealB; rw [hi]
    rw [hb]
    rw [hi] at h1
    funext q
    simp [runD, env0, mSeq, mIfS, mNot, mB, mIsC, mVar, isC, mRet, mC, mTV, mAnd, mOr, mBin, mFld, dEqF, flV, retM, DL.bindM, mNx, mCall, lenM, mCons, mNil, mTup, mIsT, isT, mSet, mAsg, tgTup, tgCons, tgN, tgNil, mk_Ratio_1, mk_Ratio_2, mCallO, lenO, runO, mRetO, mLst, mIf, mUn, dNegI, mIsT2, mNoP, mPart, oListC, mDrop, mNever, d_is_dealt, hm, h1]
  · obtain ⟨hl, hd⟩ := hv.2 ds hi
    rw [hi] at h1
    have h3 := len_items hi
    have h4 : mCall cAll (mCons (mLst (mLc (srcS (mVar 1)) [2] (tgN 2) mYes (mCall (lenM 1 d_is_count) (mCons (mVar 2) mNil)))) mNil) [.val (.int (p : Nat)), .val v, .un] = retM (.bl (ds.all isN)) := all_eq (src_items hi rfl) hl fun d hdd => by
      have := iscount_eq (hd d hdd)
      funext q; simp [runD, env0, mSeq, mIfS, mNot, mB, mIsC, mVar, isC, mRet, mC, mTV, mAnd, mOr, mBin, mFld, dEqF, flV, retM, DL.bindM, mNx, mCall, lenM, mCons, mNil, mTup, mIsT, isT, mSet, mAsg, tgTup, tgCons, tgN, tgNil, mk_Ratio_1, mk_Ratio_2, mCallO, lenO, runO, mRetO, mLst, mIf, mUn, dNegI, mIsT2, mNoP, mPart, oListC, mDrop, mNever, wipeE, this]
    generalize mCall cAll (mCons (mLst (mLc (srcS (mVar 1)) [2] (tgN 2) mYes (mCall (lenM 1 d_is_count) (mCons (mVar 2) mNil)))) mNil) = al at *
    by_cases hlen : ds.length = p * p
    · cases hall : ds.all isN with
      | false =>
        have hb : dealB p v = false := by
          unfold dealB
          rw [hi]
          dsimp only
          rcases hn : intsD ds with _ | ns
          · rfl
          · refine decide_eq_false fun z => ?_
            rw [intsD_inv hn, all_n] at hall
            have : (ns.all fun i => decide (0 ≤ i)) = true := List.all_eq_true.mpr fun i hii => decide_eq_true (deal_mem z hii).1
            rw [this] at hall
            cases hall
        rw [hall] at h4
        rw [hb]
        funext q
        simp [runD, env0, mSeq, mIfS, mNot, mB, mIsC, mVar, isC, mRet, mC, mTV, mAnd, mOr, mBin, mFld, dEqF, flV, retM, DL.bindM, mNx, mCall, lenM, mCons, mNil, mTup, mIsT, isT, mSet, mAsg, tgTup, tgCons, tgN, tgNil, mk_Ratio_1, mk_Ratio_2, mCallO, lenO, runO, mRetO, mLst, mIf, mUn, dNegI, mIsT2, mNoP, mPart, oListC, mDrop, mNever, d_is_dealt, hm, h1, h2, h3, h4, hlen, L2.scal]
      | true =>
        obtain ⟨ns, rfl⟩ := intsD_of (isN_isI hall)
        have hb : dealB p v = decide (sortI ns = rngI (p * p)) := by
          unfold dealB
          rw [hi]
          dsimp only
          rw [intsD_map]
        have h5 := deal_of hp hi
        rw [hall] at h4
        rw [hb]
        rw [hlen] at h3
        funext q
        simp [runD, env0, mSeq, mIfS, mNot, mB, mIsC, mVar, isC, mRet, mC, mTV, mAnd, mOr, mBin, mFld, dEqF, flV, retM, DL.bindM, mNx, mCall, lenM, mCons, mNil, mTup, mIsT, isT, mSet, mAsg, tgTup, tgCons, tgN, tgNil, mk_Ratio_1, mk_Ratio_2, mCallO, lenO, runO, mRetO, mLst, mIf, mUn, dNegI, mIsT2, mNoP, mPart, oListC, mDrop, mNever, d_is_dealt, hm, h1, h2, h3, h4, h5, L2.scal]
    · have hb : dealB p v = false := by
        unfold dealB
        rw [hi]
        dsimp only
        rcases hn : intsD ds with _ | ns
        · rfl
        · refine decide_eq_false fun z => hlen ?_
          rw [intsD_inv hn, List.length_map]
          exact deal_len z
      have hne : ¬ ((ds.length : Int) = ((p * p : Nat) : Int)) := by omega
      rw [hb]
      generalize ((p * p : Nat) : Int) = P at *
      funext q
      simp [runD, env0, mSeq, mIfS, mNot, mB, mIsC, mVar, isC, mRet, mC, mTV, mAnd, mOr, mBin, mFld, dEqF, flV, retM, DL.bindM, mNx, mCall, lenM, mCons, mNil, mTup, mIsT, isT, mSet, mAsg, tgTup, tgCons, tgN, tgNil, mk_Ratio_1, mk_Ratio_2, mCallO, lenO, runO, mRetO, mLst, mIf, mUn, dNegI, mIsT2, mNoP, mPart, oListC, mDrop, mNever, d_is_dealt, hm, h1, h2, h3, hne, L2.scal]
theorem pow30 : dPowI (.int 10) (.int 30) = retM (.int 1000000000000000000000000000000) := rfl
theorem deal_law {p : Nat} (hp : p ≤ 11) {v : D} (hv : Kd v) : d__law_is_deal [.int p, v] = retM (.bl (dealB p v)) := by
  have h1 := ist2_eq hv.1 [.val (.int (p : Nat)), .val v, .un] 1 rfl
  have h2 := mulP p hp
  have hm : m__law_is_deal = mSeq (mIfS (mOr (mNot (mB (mIsT2 "list" "tuple" (mVar 1)))) (mNot (mB (mCall cAll (mCons (mLst (mLc (srcS (mVar 1)) [2] (tgN 2) mYes (mCall (lenM 2 d__law_is_count) (mCons (mVar 2) (mCons (mBin dPowI (mC (.int 10)) (mC (.int 30))) mNil))))) mNil))))) (mRet (mC (.bl false))) mNx) (mRet (mBin (dEqU false) (mCall cSorted (mCons (mVar 1) mNil)) (mLst (oRg1 (mBin dMulI (mVar 0) (mVar 0)))))) := rfl
  generalize mIsT2 "list" "tuple" (mVar 1) = it at *
  rcases hi : itemsD v with _ | ds
  · have hb : dealB p v = false := by unfold dealB; rw [hi]
    rw [hb]
    rw [hi] at h1
    funext q
    simp [runD, env0, mSeq, mIfS, mNot, mB, mIsC, mVar, isC, mRet, mC, mTV, mAnd, mOr, mBin, mFld, dEqF, flV, retM, DL.bindM, mNx, mCall, lenM, mCons, mNil, mTup, mIsT, isT, mSet, mAsg, tgTup, tgCons, tgN, tgNil, mk_Ratio_1, mk_Ratio_2, mCallO, lenO, runO, mRetO, mLst, mIf, mUn, dNegI, mIsT2, mNoP, mPart, oListC, mDrop, mNever, d__law_is_deal, hm, h1]
  · obtain ⟨hl, hd⟩ := hv.2 ds hi
    rw [hi] at h1
    have h4 : mCall cAll (mCons (mLst (mLc (srcS (mVar 1)) [2] (tgN 2) mYes (mCall (lenM 2 d__law_is_count) (mCons (mVar 2) (mCons (mBin dPowI (mC (.int 10)) (mC (.int 30))) mNil))))) mNil) [.val (.int (p : Nat)), .val v, .un] = retM (.bl (ds.all (cntB 1000000000000000000000000000000))) := all_eq (src_items hi rfl) hl fun d hdd => by
      have := lawcnt_eq (hd d hdd) 1000000000000000000000000000000
      funext q; simp [runD, env0, mSeq, mIfS, mNot, mB, mIsC, mVar, isC, mRet, mC, mTV, mAnd, mOr, mBin, mFld, dEqF, flV, retM, DL.bindM, mNx, mCall, lenM, mCons, mNil, mTup, mIsT, isT, mSet, mAsg, tgTup, tgCons, tgN, tgNil, mk_Ratio_1, mk_Ratio_2, mCallO, lenO, runO, mRetO, mLst, mIf, mUn, dNegI, mIsT2, mNoP, mPart, oListC, mDrop, mNever, wipeE, this, pow30]
    generalize mCall cAll (mCons (mLst (mLc (srcS (mVar 1)) [2] (tgN 2) mYes (mCall (lenM 2 d__law_is_count) (mCons (mVar 2) (mCons (mBin dPowI (mC (.int 10)) (mC (.int 30))) mNil))))) mNil) = al at *
    cases hall : ds.all (cntB 1000000000000000000000000000000) with
    | false =>
      have hb : dealB p v = false := by
        unfold dealB
        rw [hi]
        dsimp only
        rcases hn : intsD ds with _ | ns
        · rfl
        · refine decide_eq_false fun z => ?_
          have : ds.all (cntB 1000000000000000000000000000000) = true := List.all_eq_true.mpr fun d hdd => by
            rw [intsD_inv hn] at hdd
            obtain ⟨i, hii, rfl⟩ := List.mem_map.mp hdd
            have := deal_mem z hii
            have := sq_le hp
            show (decide (0 ≤ i) && decide (i ≤ 1000000000000000000000000000000)) = true
            rw [decide_eq_true (by omega), decide_eq_true (by omega)]
            rfl
          rw [this] at hall
          cases hall
      rw [hall] at h4
      rw [hb]
      funext q
      simp [runD, env0, mSeq, mIfS, mNot, mB, mIsC, mVar, isC, mRet, mC, mTV, mAnd, mOr, mBin, mFld, dEqF, flV, retM, DL.bindM, mNx, mCall, lenM, mCons, mNil, mTup, mIsT, isT, mSet, mAsg, tgTup, tgCons, tgN, tgNil, mk_Ratio_1, mk_Ratio_2, mCallO, lenO, runO, mRetO, mLst, mIf, mUn, dNegI, mIsT2, mNoP, mPart, oListC, mDrop, mNever, d__law_is_deal, hm, h1, h4]
    | true =>
      obtain ⟨ns, rfl⟩ : ∃ ns : List Int, ds = ns.map D.int := by
        refine intsD_of (List.all_eq_true.mpr fun d hdd => ?_)
        have := List.all_eq_true.mp hall d hdd
        cases d <;> first | rfl | cases this
      have hb : dealB p v = decide (sortI ns = rngI (p * p)) := by
        unfold dealB
        rw [hi]
        dsimp only
        rw [intsD_map]
      have h5 := sorted_items hi
      have h6 : oRg1 (mBin dMulI (mVar 0) (mVar 0)) [.val (.int (p : Nat)), .val v, .un] = retM ((rngI (p * p)).map .int) := rg1 (by funext q; simp [runD, env0, mSeq, mIfS, mNot, mB, mIsC, mVar, isC, mRet, mC, mTV, mAnd, mOr, mBin, mFld, dEqF, flV, retM, DL.bindM, mNx, mCall, lenM, mCons, mNil, mTup, mIsT, isT, mSet, mAsg, tgTup, tgCons, tgN, tgNil, mk_Ratio_1, mk_Ratio_2, mCallO, lenO, runO, mRetO, mLst, mIf, mUn, dNegI, mIsT2, mNoP, mPart, oListC, mDrop, mNever, h2]) (Nat.le_trans (sq_le hp) (by decide))
      have h7 := eq_ints false (sortI ns) (rngI (p * p))
      rw [show (decide (sortI ns = rngI (p * p)) != false) = decide (sortI ns = rngI (p * p)) by cases decide (sortI ns = rngI (p * p)) <;> rfl] at h7
      rw [hall] at h4
      rw [hb]
      generalize oRg1 (mBin dMulI (mVar 0) (mVar 0)) = rg at *
      funext q
      simp [runD, env0, mSeq, mIfS, mNot, mB, mIsC, mVar, isC, mRet, mC, mTV, mAnd, mOr, mBin, mFld, dEqF, flV, retM, DL.bindM, mNx, mCall, lenM, mCons, mNil, mTup, mIsT, isT, mSet, mAsg, tgTup, tgCons, tgN, tgNil, mk_Ratio_1, mk_Ratio_2, mCallO, lenO, runO, mRetO, mLst, mIf, mUn, dNegI, mIsT2, mNoP, mPart, oListC, mDrop, mNever, d__law_is_deal, hm, h1, h4, h5, h6, h7]
theorem want_prime_eq {p : Nat} (hp : p = 3 ∨ p = 5 ∨ p = 7 ∨ p = 11) : d_want_prime [.int p] = retM .non := by
  have h1 := isint_eq (d := .int (p : Nat)) (fun z => nomatch z)
  have h2 : dInF true (.int (p : Nat)) (.tup (([3, 5, 7, 11] : List Int).map .int)) = retM (.bl false) := by
    rcases hp with rfl | rfl | rfl | rfl <;> rfl
  funext q
  simp only [List.map_cons, List.map_nil] at h2
  simp [runD, env0, mSeq, mIfS, mNot, mB, mIsC, mVar, isC, mRet, mC, mTV, mAnd, mOr, mBin, mFld, dEqF, flV, retM, DL.bindM, mNx, mCall, lenM, mCons, mNil, mTup, mIsT, isT, mSet, mAsg, tgTup, tgCons, tgN, tgNil, mk_Ratio_1, mk_Ratio_2, mCallO, lenO, runO, mRetO, mLst, mIf, mUn, dNegI, mIsT2, mNoP, mPart, oListC, mDrop, mNever, d_want_prime, m_want_prime, h1, h2, isI]
theorem isdeal_eq {p : Nat} (hp : p = 3 ∨ p = 5 ∨ p = 7 ∨ p = 11) {v : D} (hv : Kd v) : d_is_deal [.int p, v] = retM (.bl (dealB p v)) := by
  have h1 := want_prime_eq hp
  have h2 := deal_prog (p := p) (by omega) hv
  funext q
  simp [runD, env0, mSeq, mIfS, mNot, mB, mIsC, mVar, isC, mRet, mC, mTV, mAnd, mOr, mBin, mFld, dEqF, flV, retM, DL.bindM, mNx, mCall, lenM, mCons, mNil, mTup, mIsT, isT, mSet, mAsg, tgTup, tgCons, tgN, tgNil, mk_Ratio_1, mk_Ratio_2, mCallO, lenO, runO, mRetO, mLst, mIf, mUn, dNegI, mIsT2, mNoP, mPart, oListC, mDrop, mNever, d_is_deal, m_is_deal, h1, h2]
theorem wantdeal_eq {p : Nat} (hp : p ≤ 11) {v : D} (hv : Kd v) {ns : List Int} (h : itemsD v = some (ns.map .int)) (hd : sortI ns = rngI (p * p)) : o_want_deal [.int p, v] = retM (ns.map .int) := by
  have h2 := deal_prog hp hv
  have hb : dealB p v = true := by
    unfold dealB
    rw [h]
    dsimp only
    rw [intsD_map]
    exact decide_eq_true hd
  rw [hb] at h2
  have h3 : oListC [v] = retM (ns.map .int) := by
    rcases items_cases h with rfl | rfl <;> rfl
  unfold oListC at h3
  funext q
  simp [runD, env0, mSeq, mIfS, mNot, mB, mIsC, mVar, isC, mRet, mC, mTV, mAnd, mOr, mBin, mFld, dEqF, flV, retM, DL.bindM, mNx, mCall, lenM, mCons, mNil, mTup, mIsT, isT, mSet, mAsg, tgTup, tgCons, tgN, tgNil, mk_Ratio_1, mk_Ratio_2, mCallO, lenO, runO, mRetO, mLst, mIf, mUn, dNegI, mIsT2, mNoP, mPart, oListC, mDrop, mNever, o_want_deal, m_want_deal, h2, h3]
end Q
end

section
set_option Elab.async false
set_option linter.all false
set_option maxRecDepth 100000
set_option maxHeartbeats 4000000
set_option exponentiation.threshold 20000
/-! k42: moves and plays, told. -/
namespace Q
open DL PySem PyProof.Rows
theorem eqs_str (a b : Str) : dEqF false (.str a) (.str b) = retM (.bl (decide (a = b))) := by
  unfold dEqF
  simp [runD, env0, mSeq, mIfS, mNot, mB, mIsC, mVar, isC, mRet, mC, mTV, mAnd, mOr, mBin, mFld, dEqF, flV, retM, DL.bindM, mNx, mCall, lenM, mCons, mNil, mTup, mIsT, isT, mSet, mAsg, tgTup, tgCons, tgN, tgNil, mk_Ratio_1, mk_Ratio_2, mCallO, lenO, runO, mRetO, mLst, mIf, mUn, dNegI, mIsT2, mNoP, mPart, oListC, mDrop, mNever, flV, L2.scal]
def yxB (w : Str) : Bool := ((("y" : Str) == w) || (("x" : Str) == w))
theorem in_yx (w : Str) : dInF false (.str w) (.tup [.str "y", .str "x"]) = retM (.bl (yxB w)) := by
  show retM (D.bl (L2.inV (L2.V.str w) [L2.V.str "y", L2.V.str "x"])) = _
  unfold L2.inV yxB
  simp [runD, env0, mSeq, mIfS, mNot, mB, mIsC, mVar, isC, mRet, mC, mTV, mAnd, mOr, mBin, mFld, dEqF, flV, retM, DL.bindM, mNx, mCall, lenM, mCons, mNil, mTup, mIsT, isT, mSet, mAsg, tgTup, tgCons, tgN, tgNil, mk_Ratio_1, mk_Ratio_2, mCallO, lenO, runO, mRetO, mLst, mIf, mUn, dNegI, mIsT2, mNoP, mPart, oListC, mDrop, mNever, L2.eqV]
theorem in_xy (w : Str) : dInF true (.str w) (.lst [.str "x", .str "y"]) = retM (.bl (!yxB w)) := by
  show retM (D.bl (!L2.inV (L2.V.str w) [L2.V.str "x", L2.V.str "y"])) = _
  unfold L2.inV yxB
  simp only [List.any_cons, List.any_nil, L2.eqV, Bool.or_false]
  rw [Bool.or_comm]
def seqCnt (p : Nat) (x : D) : Bool := match itemsD x with
  | some ds => decide (ds.length = p) && ds.all (cntB ((p : Int) - 1))
  | none => false
def posB : D → Bool
  | .int i => decide (0 < i)
  | _ => false
def moveB (p : Nat) : D → Bool
  | .tup [.str w, x] => if w = ("turn" : Str) then cntB ((p : Int) - 1) x && posB x else yxB w && seqCnt p x
  | _ => false
def Km (v : D) : Prop := v ≠ .pot ∧ ∀ ds, itemsD v = some ds → ∀ d ∈ ds, Kd d
theorem values_eq {p : Nat} {x : D} (hx : Kd x) : d_are_values [.int p, x] = retM (.bl (seqCnt p x)) := by
  have h1 := islist_eq hx.1
  have hm : m_are_values = mRet (mTV (mAnd (mB (mCall (lenM 1 d_is_list) (mCons (mVar 1) mNil))) (mB (mTV (mAnd (mB (mBin (dEqF false) (mCall cLen (mCons (mVar 1) mNil)) (mVar 0))) (mB (mCall cAll (mCons (mLst (mLc (srcS (mVar 1)) [2] (tgN 2) mYes (mTV (mAnd (mB (mCall (lenM 1 d_is_count) (mCons (mVar 2) mNil))) (mB (mBin dLt (mVar 2) (mVar 0))))))) mNil)))))))) := rfl
  rcases hi : itemsD x with _ | ds
  · have hb : seqCnt p x = false := by unfold seqCnt; rw [hi]
    rw [hi] at h1
    rw [hb]
    funext q
    simp [runD, env0, mSeq, mIfS, mNot, mB, mIsC, mVar, isC, mRet, mC, mTV, mAnd, mOr, mBin, mFld, dEqF, flV, retM, DL.bindM, mNx, mCall, lenM, mCons, mNil, mTup, mIsT, isT, mSet, mAsg, tgTup, tgCons, tgN, tgNil, mk_Ratio_1, mk_Ratio_2, mCallO, lenO, runO, mRetO, mLst, mIf, mUn, dNegI, mIsT2, mNoP, mPart, oListC, mDrop, mNever, d_are_values, hm, h1]
  · obtain ⟨hl, hd⟩ := hx.2 ds hi
    rw [hi] at h1
    have h3 := len_items hi
    have h4 : mCall cAll (mCons (mLst (mLc (srcS (mVar 1)) [2] (tgN 2) mYes (mTV (mAnd (mB (mCall (lenM 1 d_is_count) (mCons (mVar 2) mNil))) (mB (mBin dLt (mVar 2) (mVar 0))))))) mNil) [.val (.int (p : Nat)), .val x, .un] = retM (.bl (ds.all (cntB ((p : Int) - 1)))) := all_eq (src_items hi rfl) hl fun d hdd => by
      have := iscount_eq (hd d hdd)
      funext q
      cases d <;> first | (simp [runD, env0, mSeq, mIfS, mNot, mB, mIsC, mVar, isC, mRet, mC, mTV, mAnd, mOr, mBin, mFld, dEqF, flV, retM, DL.bindM, mNx, mCall, lenM, mCons, mNil, mTup, mIsT, isT, mSet, mAsg, tgTup, tgCons, tgN, tgNil, mk_Ratio_1, mk_Ratio_2, mCallO, lenO, runO, mRetO, mLst, mIf, mUn, dNegI, mIsT2, mNoP, mPart, oListC, mDrop, mNever, wipeE, this, isN, cntB]; done) | skip
      rename_i i
      by_cases hi0 : 0 ≤ i
      · have e : decide (i < (p : Int)) = decide (i ≤ (p : Int) - 1) := decide_eq_decide.mpr (by omega)
        simp only [isN, hi0, decide_true] at this
        simp [runD, env0, mSeq, mIfS, mNot, mB, mIsC, mVar, isC, mRet, mC, mTV, mAnd, mOr, mBin, mFld, dEqF, flV, retM, DL.bindM, mNx, mCall, lenM, mCons, mNil, mTup, mIsT, isT, mSet, mAsg, tgTup, tgCons, tgN, tgNil, mk_Ratio_1, mk_Ratio_2, mCallO, lenO, runO, mRetO, mLst, mIf, mUn, dNegI, mIsT2, mNoP, mPart, oListC, mDrop, mNever, wipeE, this, cntB, hi0, dLt, dII, e]
      · simp [runD, env0, mSeq, mIfS, mNot, mB, mIsC, mVar, isC, mRet, mC, mTV, mAnd, mOr, mBin, mFld, dEqF, flV, retM, DL.bindM, mNx, mCall, lenM, mCons, mNil, mTup, mIsT, isT, mSet, mAsg, tgTup, tgCons, tgN, tgNil, mk_Ratio_1, mk_Ratio_2, mCallO, lenO, runO, mRetO, mLst, mIf, mUn, dNegI, mIsT2, mNoP, mPart, oListC, mDrop, mNever, wipeE, this, isN, cntB, hi0]
    have hb : seqCnt p x = (decide (ds.length = p) && ds.all (cntB ((p : Int) - 1))) := by unfold seqCnt; rw [hi]
    have e2 : decide ((ds.length : Int) = (p : Int)) = decide (ds.length = p) := decide_eq_decide.mpr (by omega)
    rw [hb]
    generalize mCall cAll (mCons (mLst (mLc (srcS (mVar 1)) [2] (tgN 2) mYes (mTV (mAnd (mB (mCall (lenM 1 d_is_count) (mCons (mVar 2) mNil))) (mB (mBin dLt (mVar 2) (mVar 0))))))) mNil) = al at *
    generalize ds.all (cntB ((p : Int) - 1)) = aB at *
    funext q
    by_cases hlp : ds.length = p
    · simp [runD, env0, mSeq, mIfS, mNot, mB, mIsC, mVar, isC, mRet, mC, mTV, mAnd, mOr, mBin, mFld, dEqF, flV, retM, DL.bindM, mNx, mCall, lenM, mCons, mNil, mTup, mIsT, isT, mSet, mAsg, tgTup, tgCons, tgN, tgNil, mk_Ratio_1, mk_Ratio_2, mCallO, lenO, runO, mRetO, mLst, mIf, mUn, dNegI, mIsT2, mNoP, mPart, oListC, mDrop, mNever, d_are_values, hm, h1, h3, h4, L2.scal, hlp]
    · have hne : ¬ ((ds.length : Int) = (p : Int)) := by omega
      simp [runD, env0, mSeq, mIfS, mNot, mB, mIsC, mVar, isC, mRet, mC, mTV, mAnd, mOr, mBin, mFld, dEqF, flV, retM, DL.bindM, mNx, mCall, lenM, mCons, mNil, mTup, mIsT, isT, mSet, mAsg, tgTup, tgCons, tgN, tgNil, mk_Ratio_1, mk_Ratio_2, mCallO, lenO, runO, mRetO, mLst, mIf, mUn, dNegI, mIsT2, mNoP, mPart, oListC, mDrop, mNever, d_are_values, hm, h1, h3, L2.scal, hlp, hne]
theorem at0 (a b : D) : atD (.tup [a, b]) (.int 0) = retM a := rfl
theorem at1 (a b : D) : atD (.tup [a, b]) (.int 1) = retM b := rfl
theorem move_prog {p : Nat} {v : D} (hv : Km v) : d_is_move [.int p, v] = retM (.bl (moveB p v)) := by
  funext q
  cases v with
  | pot => exact absurd rfl hv.1
  | tup ds =>
    rcases ds with _ | ⟨a, _ | ⟨b, _ | ⟨c, r⟩⟩⟩
    · simp [runD, env0, mSeq, mIfS, mNot, mB, mIsC, mVar, isC, mRet, mC, mTV, mAnd, mOr, mBin, mFld, dEqF, flV, retM, DL.bindM, mNx, mCall, lenM, mCons, mNil, mTup, mIsT, isT, mSet, mAsg, tgTup, tgCons, tgN, tgNil, mk_Ratio_1, mk_Ratio_2, mCallO, lenO, runO, mRetO, mLst, mIf, mUn, dNegI, mIsT2, mNoP, mPart, oListC, mDrop, mNever, d_is_move, m_is_move, cLen, L2.scal, moveB]
    · simp [runD, env0, mSeq, mIfS, mNot, mB, mIsC, mVar, isC, mRet, mC, mTV, mAnd, mOr, mBin, mFld, dEqF, flV, retM, DL.bindM, mNx, mCall, lenM, mCons, mNil, mTup, mIsT, isT, mSet, mAsg, tgTup, tgCons, tgN, tgNil, mk_Ratio_1, mk_Ratio_2, mCallO, lenO, runO, mRetO, mLst, mIf, mUn, dNegI, mIsT2, mNoP, mPart, oListC, mDrop, mNever, d_is_move, m_is_move, cLen, L2.scal, moveB]
    · have ha := hv.2 _ rfl a (by simp [runD, env0, mSeq, mIfS, mNot, mB, mIsC, mVar, isC, mRet, mC, mTV, mAnd, mOr, mBin, mFld, dEqF, flV, retM, DL.bindM, mNx, mCall, lenM, mCons, mNil, mTup, mIsT, isT, mSet, mAsg, tgTup, tgCons, tgN, tgNil, mk_Ratio_1, mk_Ratio_2, mCallO, lenO, runO, mRetO, mLst, mIf, mUn, dNegI, mIsT2, mNoP, mPart, oListC, mDrop, mNever])
      have hb := hv.2 _ rfl b (by simp [runD, env0, mSeq, mIfS, mNot, mB, mIsC, mVar, isC, mRet, mC, mTV, mAnd, mOr, mBin, mFld, dEqF, flV, retM, DL.bindM, mNx, mCall, lenM, mCons, mNil, mTup, mIsT, isT, mSet, mAsg, tgTup, tgCons, tgN, tgNil, mk_Ratio_1, mk_Ratio_2, mCallO, lenO, runO, mRetO, mLst, mIf, mUn, dNegI, mIsT2, mNoP, mPart, oListC, mDrop, mNever])
      cases a with
      | pot => exact absurd rfl ha.1
      | str w =>
        have h1 := eqs_str w "turn"
        have h2 := in_yx w
        have h3 := iscount_eq hb.1
        have h4 := values_eq (p := p) hb
        by_cases hw : w = ("turn" : Str)
        · subst hw
          simp only [decide_true] at h1
          cases b <;> first | (exact absurd rfl hb.1) | skip
          case int i =>
            by_cases h0 : 0 ≤ i
            · by_cases h0' : 0 < i
              · have e : decide (i < (p : Int)) = decide (i ≤ (p : Int) - 1) := decide_eq_decide.mpr (by omega)
                simp only [isN, h0, decide_true] at h3
                simp [runD, env0, mSeq, mIfS, mNot, mB, mIsC, mVar, isC, mRet, mC, mTV, mAnd, mOr, mBin, mFld, dEqF, flV, retM, DL.bindM, mNx, mCall, lenM, mCons, mNil, mTup, mIsT, isT, mSet, mAsg, tgTup, tgCons, tgN, tgNil, mk_Ratio_1, mk_Ratio_2, mCallO, lenO, runO, mRetO, mLst, mIf, mUn, dNegI, mIsT2, mNoP, mPart, oListC, mDrop, mNever, d_is_move, m_is_move, cLen, L2.scal, moveB, at0, at1, h1, h3, mChain, dLt, dII, h0', h0, cntB, posB, e]
              · simp only [isN, h0, decide_true] at h3
                simp [runD, env0, mSeq, mIfS, mNot, mB, mIsC, mVar, isC, mRet, mC, mTV, mAnd, mOr, mBin, mFld, dEqF, flV, retM, DL.bindM, mNx, mCall, lenM, mCons, mNil, mTup, mIsT, isT, mSet, mAsg, tgTup, tgCons, tgN, tgNil, mk_Ratio_1, mk_Ratio_2, mCallO, lenO, runO, mRetO, mLst, mIf, mUn, dNegI, mIsT2, mNoP, mPart, oListC, mDrop, mNever, d_is_move, m_is_move, cLen, L2.scal, moveB, at0, at1, h1, h3, mChain, dLt, dII, h0', cntB, posB]
            · have h0' : ¬ 0 < i := by omega
              simp only [isN, h0, decide_false] at h3
              simp [runD, env0, mSeq, mIfS, mNot, mB, mIsC, mVar, isC, mRet, mC, mTV, mAnd, mOr, mBin, mFld, dEqF, flV, retM, DL.bindM, mNx, mCall, lenM, mCons, mNil, mTup, mIsT, isT, mSet, mAsg, tgTup, tgCons, tgN, tgNil, mk_Ratio_1, mk_Ratio_2, mCallO, lenO, runO, mRetO, mLst, mIf, mUn, dNegI, mIsT2, mNoP, mPart, oListC, mDrop, mNever, d_is_move, m_is_move, cLen, L2.scal, moveB, at0, at1, h1, h3, h0, cntB]
          all_goals (simp only [isN] at h3; simp [runD, env0, mSeq, mIfS, mNot, mB, mIsC, mVar, isC, mRet, mC, mTV, mAnd, mOr, mBin, mFld, dEqF, flV, retM, DL.bindM, mNx, mCall, lenM, mCons, mNil, mTup, mIsT, isT, mSet, mAsg, tgTup, tgCons, tgN, tgNil, mk_Ratio_1, mk_Ratio_2, mCallO, lenO, runO, mRetO, mLst, mIf, mUn, dNegI, mIsT2, mNoP, mPart, oListC, mDrop, mNever, d_is_move, m_is_move, cLen, L2.scal, moveB, at0, at1, h1, h3, cntB])
        · have hw' : decide (w = ("turn" : Str)) = false := decide_eq_false hw
          rw [hw'] at h1
          cases hy : yxB w <;> rw [hy] at h2 <;> simp [runD, env0, mSeq, mIfS, mNot, mB, mIsC, mVar, isC, mRet, mC, mTV, mAnd, mOr, mBin, mFld, dEqF, flV, retM, DL.bindM, mNx, mCall, lenM, mCons, mNil, mTup, mIsT, isT, mSet, mAsg, tgTup, tgCons, tgN, tgNil, mk_Ratio_1, mk_Ratio_2, mCallO, lenO, runO, mRetO, mLst, mIf, mUn, dNegI, mIsT2, mNoP, mPart, oListC, mDrop, mNever, d_is_move, m_is_move, cLen, L2.scal, moveB, at0, at1, h1, h2, h4, hw, hy]
      | _ => simp [runD, env0, mSeq, mIfS, mNot, mB, mIsC, mVar, isC, mRet, mC, mTV, mAnd, mOr, mBin, mFld, dEqF, flV, retM, DL.bindM, mNx, mCall, lenM, mCons, mNil, mTup, mIsT, isT, mSet, mAsg, tgTup, tgCons, tgN, tgNil, mk_Ratio_1, mk_Ratio_2, mCallO, lenO, runO, mRetO, mLst, mIf, mUn, dNegI, mIsT2, mNoP, mPart, oListC, mDrop, mNever, d_is_move, m_is_move, cLen, L2.scal, moveB, at0]
    · have hne : ¬ (((r.length : Int) + 1 + 1 + 1) = 2) := by omega
      simp [runD, env0, mSeq, mIfS, mNot, mB, mIsC, mVar, isC, mRet, mC, mTV, mAnd, mOr, mBin, mFld, dEqF, flV, retM, DL.bindM, mNx, mCall, lenM, mCons, mNil, mTup, mIsT, isT, mSet, mAsg, tgTup, tgCons, tgN, tgNil, mk_Ratio_1, mk_Ratio_2, mCallO, lenO, runO, mRetO, mLst, mIf, mUn, dNegI, mIsT2, mNoP, mPart, oListC, mDrop, mNever, d_is_move, m_is_move, cLen, L2.scal, moveB, hne]
  | _ => simp [runD, env0, mSeq, mIfS, mNot, mB, mIsC, mVar, isC, mRet, mC, mTV, mAnd, mOr, mBin, mFld, dEqF, flV, retM, DL.bindM, mNx, mCall, lenM, mCons, mNil, mTup, mIsT, isT, mSet, mAsg, tgTup, tgCons, tgN, tgNil, mk_Ratio_1, mk_Ratio_2, mCallO, lenO, runO, mRetO, mLst, mIf, mUn, dNegI, mIsT2, mNoP, mPart, oListC, mDrop, mNever, d_is_move, m_is_move, moveB]
end Q
end

section
set_option Elab.async false
set_option linter.all false
set_option maxRecDepth 100000
set_option maxHeartbeats 4000000
set_option exponentiation.threshold 20000
/-! k42: moves and plays by the law. -/
namespace Q
open DL PySem PyProof.Rows
theorem lawvalues_eq {p : Nat} {x a : D} (hx : Kd x) {ds : List D} (hi : itemsD x = some ds) (v0 v2 : SV) : mCall cAll (mCons (mLst (mLc (srcS (mBin atD (mVar 1) (mC (.int 1)))) [2] (tgN 2) mYes (mCall (lenM 2 d__law_is_count) (mCons (mVar 2) (mCons (mBin dSubI (mVar 0) (mC (.int 1))) mNil))))) mNil) [.val (.int (p : Nat)), .val (.tup [a, x]), v2] = retM (.bl (ds.all (cntB ((p : Int) - 1)))) := by
  obtain ⟨hl, hd⟩ := hx.2 ds hi
  refine all_eq (src_items hi (by funext q; simp [runD, env0, mSeq, mIfS, mNot, mB, mIsC, mVar, isC, mRet, mC, mTV, mAnd, mOr, mBin, mFld, dEqF, flV, retM, DL.bindM, mNx, mCall, lenM, mCons, mNil, mTup, mIsT, isT, mSet, mAsg, tgTup, tgCons, tgN, tgNil, mk_Ratio_1, mk_Ratio_2, mCallO, lenO, runO, mRetO, mLst, mIf, mUn, dNegI, mIsT2, mNoP, mPart, oListC, mDrop, mNever, at1])) hl fun d hdd => ?_
  have := lawcnt_eq (hd d hdd) ((p : Int) - 1)
  funext q
  simp [runD, env0, mSeq, mIfS, mNot, mB, mIsC, mVar, isC, mRet, mC, mTV, mAnd, mOr, mBin, mFld, dEqF, flV, retM, DL.bindM, mNx, mCall, lenM, mCons, mNil, mTup, mIsT, isT, mSet, mAsg, tgTup, tgCons, tgN, tgNil, mk_Ratio_1, mk_Ratio_2, mCallO, lenO, runO, mRetO, mLst, mIf, mUn, dNegI, mIsT2, mNoP, mPart, oListC, mDrop, mNever, wipeE, this, dSubI, dII]
theorem move_law {p : Nat} {v : D} (hv : Km v) : d__law_is_move [.int p, v] = retM (.bl (moveB p v)) := by
  funext q
  have hm : m__law_is_move = mSeq (mIfS (mOr (mNot (mB (mIsT "tuple" (mVar 1)))) (mOr (mB (mBin (dEqF true) (mCall cLen (mCons (mVar 1) mNil)) (mC (.int 2)))) (mNot (mB (mIsT "str" (mBin atD (mVar 1) (mC (.int 0)))))))) (mRet (mC (.bl false))) mNx) (mSeq (mIfS (mB (mBin (dEqF false) (mBin atD (mVar 1) (mC (.int 0))) (mC (.str "turn")))) (mRet (mTV (mAnd (mB (mCall (lenM 2 d__law_is_count) (mCons (mBin atD (mVar 1) (mC (.int 1))) (mCons (mBin dSubI (mVar 0) (mC (.int 1))) mNil)))) (mB (mBin dGt (mBin atD (mVar 1) (mC (.int 1))) (mC (.int 0))))))) mNx) (mSeq (mIfS (mOr (mB (mBin (dInF true) (mBin atD (mVar 1) (mC (.int 0))) (mLst (mNew (mCons (mC (.str "x")) (mCons (mC (.str "y")) mNil)))))) (mOr (mNot (mB (mIsT2 "list" "tuple" (mBin atD (mVar 1) (mC (.int 1)))))) (mB (mBin (dEqF true) (mCall cLen (mCons (mBin atD (mVar 1) (mC (.int 1))) mNil)) (mVar 0))))) (mRet (mC (.bl false))) mNx) (mRet (mCall cAll (mCons (mLst (mLc (srcS (mBin atD (mVar 1) (mC (.int 1)))) [2] (tgN 2) mYes (mCall (lenM 2 d__law_is_count) (mCons (mVar 2) (mCons (mBin dSubI (mVar 0) (mC (.int 1))) mNil))))) mNil))))) := rfl
  cases v with
  | pot => exact absurd rfl hv.1
  | tup ds =>
    rcases ds with _ | ⟨a, _ | ⟨b, _ | ⟨c, r⟩⟩⟩
    · simp [runD, env0, mSeq, mIfS, mNot, mB, mIsC, mVar, isC, mRet, mC, mTV, mAnd, mOr, mBin, mFld, dEqF, flV, retM, DL.bindM, mNx, mCall, lenM, mCons, mNil, mTup, mIsT, isT, mSet, mAsg, tgTup, tgCons, tgN, tgNil, mk_Ratio_1, mk_Ratio_2, mCallO, lenO, runO, mRetO, mLst, mIf, mUn, dNegI, mIsT2, mNoP, mPart, oListC, mDrop, mNever, d__law_is_move, hm, cLen, L2.scal, moveB]
    · simp [runD, env0, mSeq, mIfS, mNot, mB, mIsC, mVar, isC, mRet, mC, mTV, mAnd, mOr, mBin, mFld, dEqF, flV, retM, DL.bindM, mNx, mCall, lenM, mCons, mNil, mTup, mIsT, isT, mSet, mAsg, tgTup, tgCons, tgN, tgNil, mk_Ratio_1, mk_Ratio_2, mCallO, lenO, runO, mRetO, mLst, mIf, mUn, dNegI, mIsT2, mNoP, mPart, oListC, mDrop, mNever, d__law_is_move, hm, cLen, L2.scal, moveB]
    · have ha := hv.2 _ rfl a (by simp [runD, env0, mSeq, mIfS, mNot, mB, mIsC, mVar, isC, mRet, mC, mTV, mAnd, mOr, mBin, mFld, dEqF, flV, retM, DL.bindM, mNx, mCall, lenM, mCons, mNil, mTup, mIsT, isT, mSet, mAsg, tgTup, tgCons, tgN, tgNil, mk_Ratio_1, mk_Ratio_2, mCallO, lenO, runO, mRetO, mLst, mIf, mUn, dNegI, mIsT2, mNoP, mPart, oListC, mDrop, mNever])
      have hb := hv.2 _ rfl b (by simp [runD, env0, mSeq, mIfS, mNot, mB, mIsC, mVar, isC, mRet, mC, mTV, mAnd, mOr, mBin, mFld, dEqF, flV, retM, DL.bindM, mNx, mCall, lenM, mCons, mNil, mTup, mIsT, isT, mSet, mAsg, tgTup, tgCons, tgN, tgNil, mk_Ratio_1, mk_Ratio_2, mCallO, lenO, runO, mRetO, mLst, mIf, mUn, dNegI, mIsT2, mNoP, mPart, oListC, mDrop, mNever])
      cases a with
      | pot => exact absurd rfl ha.1
      | str w =>
        have h1 := eqs_str w "turn"
        have h2 := in_xy w
        have h3 := lawcnt_eq hb.1 ((p : Int) - 1)
        by_cases hw : w = ("turn" : Str)
        · subst hw
          simp only [decide_true] at h1
          cases b <;> first | (exact absurd rfl hb.1) | skip
          case int i =>
            cases hc : cntB ((p : Int) - 1) (.int i) <;> rw [hc] at h3 <;> simp [runD, env0, mSeq, mIfS, mNot, mB, mIsC, mVar, isC, mRet, mC, mTV, mAnd, mOr, mBin, mFld, dEqF, flV, retM, DL.bindM, mNx, mCall, lenM, mCons, mNil, mTup, mIsT, isT, mSet, mAsg, tgTup, tgCons, tgN, tgNil, mk_Ratio_1, mk_Ratio_2, mCallO, lenO, runO, mRetO, mLst, mIf, mUn, dNegI, mIsT2, mNoP, mPart, oListC, mDrop, mNever, d__law_is_move, hm, cLen, L2.scal, moveB, at0, at1, h1, h3, dSubI, dGt, dII, posB, hc]
          all_goals (simp only [cntB] at h3; simp [runD, env0, mSeq, mIfS, mNot, mB, mIsC, mVar, isC, mRet, mC, mTV, mAnd, mOr, mBin, mFld, dEqF, flV, retM, DL.bindM, mNx, mCall, lenM, mCons, mNil, mTup, mIsT, isT, mSet, mAsg, tgTup, tgCons, tgN, tgNil, mk_Ratio_1, mk_Ratio_2, mCallO, lenO, runO, mRetO, mLst, mIf, mUn, dNegI, mIsT2, mNoP, mPart, oListC, mDrop, mNever, d__law_is_move, hm, cLen, L2.scal, moveB, at0, at1, h1, h3, dSubI, dII, cntB])
        · have hw' : decide (w = ("turn" : Str)) = false := decide_eq_false hw
          rw [hw'] at h1
          cases hy : yxB w
          · rw [hy] at h2
            simp [runD, env0, mSeq, mIfS, mNot, mB, mIsC, mVar, isC, mRet, mC, mTV, mAnd, mOr, mBin, mFld, dEqF, flV, retM, DL.bindM, mNx, mCall, lenM, mCons, mNil, mTup, mIsT, isT, mSet, mAsg, tgTup, tgCons, tgN, tgNil, mk_Ratio_1, mk_Ratio_2, mCallO, lenO, runO, mRetO, mLst, mIf, mUn, dNegI, mIsT2, mNoP, mPart, oListC, mDrop, mNever, d__law_is_move, hm, cLen, L2.scal, moveB, at0, at1, h1, h2, hw, hy, mNew]
          · rw [hy] at h2
            rcases hi : itemsD b with _ | es
            · have hb0 : seqCnt p b = false := by unfold seqCnt; rw [hi]
              cases b <;> first | (cases hi; done) | (exact absurd rfl hb.1) | simp [runD, env0, mSeq, mIfS, mNot, mB, mIsC, mVar, isC, mRet, mC, mTV, mAnd, mOr, mBin, mFld, dEqF, flV, retM, DL.bindM, mNx, mCall, lenM, mCons, mNil, mTup, mIsT, isT, mSet, mAsg, tgTup, tgCons, tgN, tgNil, mk_Ratio_1, mk_Ratio_2, mCallO, lenO, runO, mRetO, mLst, mIf, mUn, dNegI, mIsT2, mNoP, mPart, oListC, mDrop, mNever, d__law_is_move, hm, cLen, L2.scal, moveB, at0, at1, h1, h2, hw, hy, mNew, hb0]
            · have h4 := lawvalues_eq (p := p) (a := .str w) hb hi .un .un
              have h5 := len_items hi
              have hb1 : seqCnt p b = (decide (es.length = p) && es.all (cntB ((p : Int) - 1))) := by unfold seqCnt; rw [hi]
              generalize mCall cAll (mCons (mLst (mLc (srcS (mBin atD (mVar 1) (mC (.int 1)))) [2] (tgN 2) mYes (mCall (lenM 2 d__law_is_count) (mCons (mVar 2) (mCons (mBin dSubI (mVar 0) (mC (.int 1))) mNil))))) mNil) = al at *
              generalize es.all (cntB ((p : Int) - 1)) = aB at *
              have hne : ¬ es.length = p → ¬ ((es.length : Int) = (p : Int)) := fun z => by omega
              rcases items_cases hi with rfl | rfl
              · by_cases hlp : es.length = p
                · simp [runD, env0, mSeq, mIfS, mNot, mB, mIsC, mVar, isC, mRet, mC, mTV, mAnd, mOr, mBin, mFld, dEqF, flV, retM, DL.bindM, mNx, mCall, lenM, mCons, mNil, mTup, mIsT, isT, mSet, mAsg, tgTup, tgCons, tgN, tgNil, mk_Ratio_1, mk_Ratio_2, mCallO, lenO, runO, mRetO, mLst, mIf, mUn, dNegI, mIsT2, mNoP, mPart, oListC, mDrop, mNever, d__law_is_move, hm, L2.scal, moveB, at0, at1, h1, h2, h4, h5, hw, hy, mNew, hb1, hlp, cLen]
                · simp [runD, env0, mSeq, mIfS, mNot, mB, mIsC, mVar, isC, mRet, mC, mTV, mAnd, mOr, mBin, mFld, dEqF, flV, retM, DL.bindM, mNx, mCall, lenM, mCons, mNil, mTup, mIsT, isT, mSet, mAsg, tgTup, tgCons, tgN, tgNil, mk_Ratio_1, mk_Ratio_2, mCallO, lenO, runO, mRetO, mLst, mIf, mUn, dNegI, mIsT2, mNoP, mPart, oListC, mDrop, mNever, d__law_is_move, hm, L2.scal, moveB, at0, at1, h1, h2, h5, hw, hy, mNew, hb1, hlp, hne hlp, cLen]
              · by_cases hlp : es.length = p
                · simp [runD, env0, mSeq, mIfS, mNot, mB, mIsC, mVar, isC, mRet, mC, mTV, mAnd, mOr, mBin, mFld, dEqF, flV, retM, DL.bindM, mNx, mCall, lenM, mCons, mNil, mTup, mIsT, isT, mSet, mAsg, tgTup, tgCons, tgN, tgNil, mk_Ratio_1, mk_Ratio_2, mCallO, lenO, runO, mRetO, mLst, mIf, mUn, dNegI, mIsT2, mNoP, mPart, oListC, mDrop, mNever, d__law_is_move, hm, L2.scal, moveB, at0, at1, h1, h2, h4, h5, hw, hy, mNew, hb1, hlp, cLen]
                · simp [runD, env0, mSeq, mIfS, mNot, mB, mIsC, mVar, isC, mRet, mC, mTV, mAnd, mOr, mBin, mFld, dEqF, flV, retM, DL.bindM, mNx, mCall, lenM, mCons, mNil, mTup, mIsT, isT, mSet, mAsg, tgTup, tgCons, tgN, tgNil, mk_Ratio_1, mk_Ratio_2, mCallO, lenO, runO, mRetO, mLst, mIf, mUn, dNegI, mIsT2, mNoP, mPart, oListC, mDrop, mNever, d__law_is_move, hm, L2.scal, moveB, at0, at1, h1, h2, h5, hw, hy, mNew, hb1, hlp, hne hlp, cLen]
      | _ => simp [runD, env0, mSeq, mIfS, mNot, mB, mIsC, mVar, isC, mRet, mC, mTV, mAnd, mOr, mBin, mFld, dEqF, flV, retM, DL.bindM, mNx, mCall, lenM, mCons, mNil, mTup, mIsT, isT, mSet, mAsg, tgTup, tgCons, tgN, tgNil, mk_Ratio_1, mk_Ratio_2, mCallO, lenO, runO, mRetO, mLst, mIf, mUn, dNegI, mIsT2, mNoP, mPart, oListC, mDrop, mNever, d__law_is_move, hm, cLen, L2.scal, moveB, at0]
    · have hne : ¬ (((r.length : Int) + 1 + 1 + 1) = 2) := by omega
      simp [runD, env0, mSeq, mIfS, mNot, mB, mIsC, mVar, isC, mRet, mC, mTV, mAnd, mOr, mBin, mFld, dEqF, flV, retM, DL.bindM, mNx, mCall, lenM, mCons, mNil, mTup, mIsT, isT, mSet, mAsg, tgTup, tgCons, tgN, tgNil, mk_Ratio_1, mk_Ratio_2, mCallO, lenO, runO, mRetO, mLst, mIf, mUn, dNegI, mIsT2, mNoP, mPart, oListC, mDrop, mNever, d__law_is_move, hm, cLen, L2.scal, moveB, hne]
  | _ => simp [runD, env0, mSeq, mIfS, mNot, mB, mIsC, mVar, isC, mRet, mC, mTV, mAnd, mOr, mBin, mFld, dEqF, flV, retM, DL.bindM, mNx, mCall, lenM, mCons, mNil, mTup, mIsT, isT, mSet, mAsg, tgTup, tgCons, tgN, tgNil, mk_Ratio_1, mk_Ratio_2, mCallO, lenO, runO, mRetO, mLst, mIf, mUn, dNegI, mIsT2, mNoP, mPart, oListC, mDrop, mNever, d__law_is_move, hm, moveB]
/-- values of which it can be told whether they are plays -/
def Kp (v : D) : Prop := v ≠ .pot ∧ ∀ ds, itemsD v = some ds → ds.length ≤ 100000 ∧ ∀ d ∈ ds, Km d
def playB (p : Nat) (v : D) : Bool := match itemsD v with
  | some ds => decide (ds.length ≤ 1500) && ds.all (moveB p)
  | none => false
theorem play_prog {p : Nat} {v : D} (hv : Kp v) : d_is_played [.int p, v] = retM (.bl (playB p v)) := by
  have h1 := islist_eq hv.1
  have hm : m_is_played = mRet (mTV (mAnd (mB (mCall (lenM 1 d_is_list) (mCons (mVar 1) mNil))) (mB (mTV (mAnd (mB (mBin dLe (mCall cLen (mCons (mVar 1) mNil)) (mC (.int 1500)))) (mB (mCall cAll (mCons (mLst (mLc (srcS (mVar 1)) [2] (tgN 2) mYes (mCall (lenM 2 d_is_move) (mCons (mVar 0) (mCons (mVar 2) mNil))))) mNil)))))))) := rfl
  rcases hi : itemsD v with _ | ds
  · have hb : playB p v = false := by unfold playB; rw [hi]
    rw [hi] at h1
    rw [hb]
    funext q
    simp [runD, env0, mSeq, mIfS, mNot, mB, mIsC, mVar, isC, mRet, mC, mTV, mAnd, mOr, mBin, mFld, dEqF, flV, retM, DL.bindM, mNx, mCall, lenM, mCons, mNil, mTup, mIsT, isT, mSet, mAsg, tgTup, tgCons, tgN, tgNil, mk_Ratio_1, mk_Ratio_2, mCallO, lenO, runO, mRetO, mLst, mIf, mUn, dNegI, mIsT2, mNoP, mPart, oListC, mDrop, mNever, d_is_played, hm, h1]
  · obtain ⟨hl, hd⟩ := hv.2 ds hi
    rw [hi] at h1
    have h3 := len_items hi
    have h4 : mCall cAll (mCons (mLst (mLc (srcS (mVar 1)) [2] (tgN 2) mYes (mCall (lenM 2 d_is_move) (mCons (mVar 0) (mCons (mVar 2) mNil))))) mNil) [.val (.int (p : Nat)), .val v, .un] = retM (.bl (ds.all (moveB p))) := all_eq (src_items hi rfl) hl fun d hdd => by
      have := move_prog (p := p) (hd d hdd)
      funext q; simp [runD, env0, mSeq, mIfS, mNot, mB, mIsC, mVar, isC, mRet, mC, mTV, mAnd, mOr, mBin, mFld, dEqF, flV, retM, DL.bindM, mNx, mCall, lenM, mCons, mNil, mTup, mIsT, isT, mSet, mAsg, tgTup, tgCons, tgN, tgNil, mk_Ratio_1, mk_Ratio_2, mCallO, lenO, runO, mRetO, mLst, mIf, mUn, dNegI, mIsT2, mNoP, mPart, oListC, mDrop, mNever, wipeE, this]
    have hb : playB p v = (decide (ds.length ≤ 1500) && ds.all (moveB p)) := by unfold playB; rw [hi]
    rw [hb]
    generalize mCall cAll (mCons (mLst (mLc (srcS (mVar 1)) [2] (tgN 2) mYes (mCall (lenM 2 d_is_move) (mCons (mVar 0) (mCons (mVar 2) mNil))))) mNil) = al at *
    generalize ds.all (moveB p) = aB at *
    funext q
    by_cases hlp : ds.length ≤ 1500
    · have hle : ((ds.length : Int) ≤ 1500) := by omega
      simp [runD, env0, mSeq, mIfS, mNot, mB, mIsC, mVar, isC, mRet, mC, mTV, mAnd, mOr, mBin, mFld, dEqF, flV, retM, DL.bindM, mNx, mCall, lenM, mCons, mNil, mTup, mIsT, isT, mSet, mAsg, tgTup, tgCons, tgN, tgNil, mk_Ratio_1, mk_Ratio_2, mCallO, lenO, runO, mRetO, mLst, mIf, mUn, dNegI, mIsT2, mNoP, mPart, oListC, mDrop, mNever, d_is_played, hm, h1, h3, h4, hlp, hle, dLe, dII]
    · have hle : ¬ ((ds.length : Int) ≤ 1500) := by omega
      simp [runD, env0, mSeq, mIfS, mNot, mB, mIsC, mVar, isC, mRet, mC, mTV, mAnd, mOr, mBin, mFld, dEqF, flV, retM, DL.bindM, mNx, mCall, lenM, mCons, mNil, mTup, mIsT, isT, mSet, mAsg, tgTup, tgCons, tgN, tgNil, mk_Ratio_1, mk_Ratio_2, mCallO, lenO, runO, mRetO, mLst, mIf, mUn, dNegI, mIsT2, mNoP, mPart, oListC, mDrop, mNever, d_is_played, hm, h1, h3, hlp, hle, dLe, dII]
theorem play_law {p : Nat} {v : D} (hv : Kp v) : d__law_is_play [.int p, v] = retM (.bl (playB p v)) := by
  have h1 := ist2_eq hv.1 [.val (.int (p : Nat)), .val v, .un] 1 rfl
  have hm : m__law_is_play = mSeq (mIfS (mOr (mNot (mB (mIsT2 "list" "tuple" (mVar 1)))) (mB (mBin dGt (mCall cLen (mCons (mVar 1) mNil)) (mC (.int 1500))))) (mRet (mC (.bl false))) mNx) (mRet (mCall cAll (mCons (mLst (mLc (srcS (mVar 1)) [2] (tgN 2) mYes (mCall (lenM 2 d__law_is_move) (mCons (mVar 0) (mCons (mVar 2) mNil))))) mNil))) := rfl
  generalize mIsT2 "list" "tuple" (mVar 1) = it at *
  rcases hi : itemsD v with _ | ds
  · have hb : playB p v = false := by unfold playB; rw [hi]
    rw [hi] at h1
    rw [hb]
    funext q
    simp [runD, env0, mSeq, mIfS, mNot, mB, mIsC, mVar, isC, mRet, mC, mTV, mAnd, mOr, mBin, mFld, dEqF, flV, retM, DL.bindM, mNx, mCall, lenM, mCons, mNil, mTup, mIsT, isT, mSet, mAsg, tgTup, tgCons, tgN, tgNil, mk_Ratio_1, mk_Ratio_2, mCallO, lenO, runO, mRetO, mLst, mIf, mUn, dNegI, mIsT2, mNoP, mPart, oListC, mDrop, mNever, d__law_is_play, hm, h1]
  · obtain ⟨hl, hd⟩ := hv.2 ds hi
    rw [hi] at h1
    have h3 := len_items hi
    have h4 : mCall cAll (mCons (mLst (mLc (srcS (mVar 1)) [2] (tgN 2) mYes (mCall (lenM 2 d__law_is_move) (mCons (mVar 0) (mCons (mVar 2) mNil))))) mNil) [.val (.int (p : Nat)), .val v, .un] = retM (.bl (ds.all (moveB p))) := all_eq (src_items hi rfl) hl fun d hdd => by
      have := move_law (p := p) (hd d hdd)
      funext q; simp [runD, env0, mSeq, mIfS, mNot, mB, mIsC, mVar, isC, mRet, mC, mTV, mAnd, mOr, mBin, mFld, dEqF, flV, retM, DL.bindM, mNx, mCall, lenM, mCons, mNil, mTup, mIsT, isT, mSet, mAsg, tgTup, tgCons, tgN, tgNil, mk_Ratio_1, mk_Ratio_2, mCallO, lenO, runO, mRetO, mLst, mIf, mUn, dNegI, mIsT2, mNoP, mPart, oListC, mDrop, mNever, wipeE, this]
    have hb : playB p v = (decide (ds.length ≤ 1500) && ds.all (moveB p)) := by unfold playB; rw [hi]
    rw [hb]
    generalize mCall cAll (mCons (mLst (mLc (srcS (mVar 1)) [2] (tgN 2) mYes (mCall (lenM 2 d__law_is_move) (mCons (mVar 0) (mCons (mVar 2) mNil))))) mNil) = al at *
    generalize ds.all (moveB p) = aB at *
    funext q
    by_cases hlp : ds.length ≤ 1500
    · have hle : ¬ ((1500 : Int) < (ds.length : Int)) := by omega
      simp [runD, env0, mSeq, mIfS, mNot, mB, mIsC, mVar, isC, mRet, mC, mTV, mAnd, mOr, mBin, mFld, dEqF, flV, retM, DL.bindM, mNx, mCall, lenM, mCons, mNil, mTup, mIsT, isT, mSet, mAsg, tgTup, tgCons, tgN, tgNil, mk_Ratio_1, mk_Ratio_2, mCallO, lenO, runO, mRetO, mLst, mIf, mUn, dNegI, mIsT2, mNoP, mPart, oListC, mDrop, mNever, d__law_is_play, hm, h1, h3, h4, hlp, hle, dGt, dII]
    · have hle : ((1500 : Int) < (ds.length : Int)) := by omega
      simp [runD, env0, mSeq, mIfS, mNot, mB, mIsC, mVar, isC, mRet, mC, mTV, mAnd, mOr, mBin, mFld, dEqF, flV, retM, DL.bindM, mNx, mCall, lenM, mCons, mNil, mTup, mIsT, isT, mSet, mAsg, tgTup, tgCons, tgN, tgNil, mk_Ratio_1, mk_Ratio_2, mCallO, lenO, runO, mRetO, mLst, mIf, mUn, dNegI, mIsT2, mNoP, mPart, oListC, mDrop, mNever, d__law_is_play, hm, h1, h3, hlp, hle, dGt, dII]
theorem isplay_eq {p : Nat} (hp : p = 3 ∨ p = 5 ∨ p = 7 ∨ p = 11) {v : D} (hv : Kp v) : d_is_play [.int p, v] = retM (.bl (playB p v)) := by
  have h1 := want_prime_eq hp
  have h2 := play_prog (p := p) hv
  funext q
  simp [runD, env0, mSeq, mIfS, mNot, mB, mIsC, mVar, isC, mRet, mC, mTV, mAnd, mOr, mBin, mFld, dEqF, flV, retM, DL.bindM, mNx, mCall, lenM, mCons, mNil, mTup, mIsT, isT, mSet, mAsg, tgTup, tgCons, tgN, tgNil, mk_Ratio_1, mk_Ratio_2, mCallO, lenO, runO, mRetO, mLst, mIf, mUn, dNegI, mIsT2, mNoP, mPart, oListC, mDrop, mNever, d_is_play, m_is_play, h1, h2]
theorem wantplay_eq {p : Nat} {v : D} (hv : Kp v) (hb : playB p v = true) : d_want_play [.int p, v] = retM .non := by
  have h2 := play_prog (p := p) hv
  rw [hb] at h2
  funext q
  simp [runD, env0, mSeq, mIfS, mNot, mB, mIsC, mVar, isC, mRet, mC, mTV, mAnd, mOr, mBin, mFld, dEqF, flV, retM, DL.bindM, mNx, mCall, lenM, mCons, mNil, mTup, mIsT, isT, mSet, mAsg, tgTup, tgCons, tgN, tgNil, mk_Ratio_1, mk_Ratio_2, mCallO, lenO, runO, mRetO, mLst, mIf, mUn, dNegI, mIsT2, mNoP, mPart, oListC, mDrop, mNever, d_want_play, m_want_play, h2]
end Q
end

section
set_option Elab.async false
set_option linter.all false
set_option maxRecDepth 100000
set_option maxHeartbeats 4000000
set_option exponentiation.threshold 20000
/-! k42: what moves do. -/
namespace Q
open DL PySem PyProof.Rows
inductive Mv where
  | turn (c : Int)
  | col (tp : Bool) (xs : List Int)
  | row (tp : Bool) (xs : List Int)
def seqD (tp : Bool) (xs : List Int) : D := if tp then .tup (xs.map .int) else .lst (xs.map .int)
def Mv.d : Mv → D
  | .turn c => .tup [.str "turn", .int c]
  | .col tp xs => .tup [.str "y", seqD tp xs]
  | .row tp xs => .tup [.str "x", seqD tp xs]
def Gl (p : Nat) (xs : List Int) : Prop := xs.length = p ∧ ∀ x ∈ xs, 0 ≤ x ∧ x ≤ (p : Int) - 1
def Good' (p : Nat) : Mv → Prop
  | .turn c => 1 ≤ c ∧ c ≤ (p : Int) - 1
  | .col _ xs => Gl p xs
  | .row _ xs => Gl p xs
def act (p : Nat) : Mv → Int × Int → Int × Int
  | .turn c, (x, y) => (x, (y * c) % (p : Int))
  | .col _ xs, (x, y) => (x, (y + xs.getD x.toNat 0) % (p : Int))
  | .row _ xs, (x, y) => ((x + xs.getD y.toNat 0) % (p : Int), y)
def Pl (p : Nat) (q : Int × Int) : Prop := 0 ≤ q.1 ∧ q.1 < (p : Int) ∧ 0 ≤ q.2 ∧ q.2 < (p : Int)
def plD (q : Int × Int) : D := .tup [.int q.1, .int q.2]
def isP (p : Nat) : Prop := p = 3 ∨ p = 5 ∨ p = 7 ∨ p = 11
theorem isP.le {p : Nat} (h : isP p) : p ≤ 11 := by unfold isP at h; omega
theorem isP.pos {p : Nat} (h : isP p) : 3 ≤ p := by unfold isP at h; omega
theorem Gl.get {p : Nat} {xs : List Int} (h : Gl p xs) (i : Nat) : 0 ≤ xs.getD i 0 ∧ xs.getD i 0 < (p : Int) + 1 := by
  rw [List.getD_eq_getElem?_getD]
  rcases z : xs[i]? with _ | x
  · show 0 ≤ (0 : Int) ∧ (0 : Int) < _; omega
  · have := h.2 x (List.mem_of_getElem? z)
    show 0 ≤ x ∧ x < _; omega
theorem act_pl {p : Nat} (hp : isP p) {m : Mv} {q : Int × Int} (hq : Pl p q) : Pl p (act p m q) := by
  obtain ⟨x, y⟩ := q
  obtain ⟨h1, h2, h3, h4⟩ := hq
  have hpos := hp.pos
  cases m with
  | turn c => exact ⟨h1, h2, Int.emod_nonneg _ (by omega), Int.emod_lt_of_pos _ (by omega)⟩
  | col tp xs => exact ⟨h1, h2, Int.emod_nonneg _ (by omega), Int.emod_lt_of_pos _ (by omega)⟩
  | row tp xs => exact ⟨Int.emod_nonneg _ (by omega), Int.emod_lt_of_pos _ (by omega), h3, h4⟩
theorem at_seq {tp : Bool} {xs : List Int} {i : Int} (h0 : 0 ≤ i) (h1 : i < (xs.length : Int)) : atD (seqD tp xs) (.int i) = retM (.int (xs.getD i.toNat 0)) := by
  obtain ⟨n, rfl⟩ := Int.eq_ofNat_of_zero_le h0
  have hn : n < xs.length := by omega
  have e : L2.atI (xs.map D.int) (n : Int) = some (.int (xs.getD n 0)) := by
    unfold L2.atI L2.ixN
    rw [List.length_map, if_pos (by omega), if_pos h1]
    show (xs.map D.int)[((n : Int)).toNat]? = _
    rw [Int.toNat_natCast, List.getElem?_map, List.getD_eq_getElem?_getD, List.getElem?_eq_getElem hn]
    rfl
  unfold seqD
  cases tp
  · show atD (.lst (xs.map .int)) _ = _
    unfold atD
    dsimp only
    rw [e, Int.toNat_natCast]
  · show atD (.tup (xs.map .int)) _ = _
    unfold atD
    dsimp only
    rw [e, Int.toNat_natCast]
theorem mul_small {i j : Int} (h1 : 0 ≤ i) (h2 : i < 12) (h3 : 0 ≤ j) (h4 : j < 12) : dMulI (.int i) (.int j) = retM (.int (i * j)) := by
  have hz : ∀ k : Int, 0 ≤ k → k < 12 → k.natAbs < bigN := fun k a b => Nat.lt_of_lt_of_le (show k.natAbs < 12 by omega) (by unfold bigN; decide +kernel)
  have a := hz i h1 h2
  have b := hz j h3 h4
  funext q
  simp [runD, env0, mSeq, mIfS, mNot, mB, mIsC, mVar, isC, mRet, mC, mTV, mAnd, mOr, mBin, mFld, dEqF, flV, retM, DL.bindM, mNx, mCall, lenM, mCons, mNil, mTup, mIsT, isT, mSet, mAsg, tgTup, tgCons, tgN, tgNil, mk_Ratio_1, mk_Ratio_2, mCallO, lenO, runO, mRetO, mLst, mIf, mUn, dNegI, mIsT2, mNoP, mPart, oListC, mDrop, mNever, dMulI, dII, a, b]
theorem mod_small {i : Int} {p : Nat} (hp : isP p) : dModI (.int i) (.int (p : Nat)) = retM (.int (i % (p : Int))) := by
  have := hp.pos
  have h : 0 < p := by omega
  funext q
  simp [runD, env0, mSeq, mIfS, mNot, mB, mIsC, mVar, isC, mRet, mC, mTV, mAnd, mOr, mBin, mFld, dEqF, flV, retM, DL.bindM, mNx, mCall, lenM, mCons, mNil, mTup, mIsT, isT, mSet, mAsg, tgTup, tgCons, tgN, tgNil, mk_Ratio_1, mk_Ratio_2, mCallO, lenO, runO, mRetO, mLst, mIf, mUn, dNegI, mIsT2, mNoP, mPart, oListC, mDrop, mNever, dModI, dII, h]
theorem turn_y : dEqF false (.str "turn") (.str "turn") = retM (.bl true) := eqs_str _ _
theorem turn_n1 : dEqF false (.str "y") (.str "turn") = retM (.bl false) := eqs_str _ _
theorem turn_n2 : dEqF false (.str "x") (.str "turn") = retM (.bl false) := eqs_str _ _
theorem y_y : dEqF false (.str "y") (.str "y") = retM (.bl true) := eqs_str _ _
theorem y_n : dEqF false (.str "x") (.str "y") = retM (.bl false) := eqs_str _ _
theorem moved_eq {p : Nat} (hp : isP p) {m : Mv} (hm : Good' p m) {q : Int × Int} (hq : Pl p q) : d_moved_place [.int p, m.d, plD q] = retM (plD (act p m q)) := by
  obtain ⟨x, y⟩ := q
  obtain ⟨h1, h2, h3, h4⟩ := hq
  have hle := hp.le
  dsimp only at h1 h2 h3 h4
  have md : ∀ i, dModI (.int i) (.int (p : Nat)) = retM (.int (i % (p : Int))) := fun i => mod_small hp
  have t1 := turn_y
  have t2 := turn_n1
  have t3 := turn_n2
  have t4 := y_y
  have t5 := y_n
  funext s
  cases m with
  | turn c =>
    obtain ⟨c1, c2⟩ := hm
    have hmul := mul_small (i := y) (j := c) h3 (by omega) (by omega) (by omega)
    simp only [d_moved_place, m_moved_place, runD, env0, Mv.d, plD, act]
    generalize dEqF = eqf at *
    simp [runD, env0, mSeq, mIfS, mNot, mB, mIsC, mVar, isC, mRet, mC, mTV, mAnd, mOr, mBin, mFld, dEqF, flV, retM, DL.bindM, mNx, mCall, lenM, mCons, mNil, mTup, mIsT, isT, mSet, mAsg, tgTup, tgCons, tgN, tgNil, mk_Ratio_1, mk_Ratio_2, mCallO, lenO, runO, mRetO, mLst, mIf, mUn, dNegI, mIsT2, mNoP, mPart, oListC, mDrop, mNever, hmul, md, t1, cInt]
  | col tp xs =>
    have hat := at_seq (tp := tp) (xs := xs) h1 (by rw [hm.1]; exact h2)
    simp only [d_moved_place, m_moved_place, runD, env0, Mv.d, plD, act]
    generalize dEqF = eqf at *
    generalize seqD tp xs = sd at *
    simp [runD, env0, mSeq, mIfS, mNot, mB, mIsC, mVar, isC, mRet, mC, mTV, mAnd, mOr, mBin, mFld, dEqF, flV, retM, DL.bindM, mNx, mCall, lenM, mCons, mNil, mTup, mIsT, isT, mSet, mAsg, tgTup, tgCons, tgN, tgNil, mk_Ratio_1, mk_Ratio_2, mCallO, lenO, runO, mRetO, mLst, mIf, mUn, dNegI, mIsT2, mNoP, mPart, oListC, mDrop, mNever, hat, md, t2, t4, cInt, dAddI, dII]
  | row tp xs =>
    have hat := at_seq (tp := tp) (xs := xs) h3 (by rw [hm.1]; exact h4)
    simp only [d_moved_place, m_moved_place, runD, env0, Mv.d, plD, act]
    generalize dEqF = eqf at *
    generalize seqD tp xs = sd at *
    simp [runD, env0, mSeq, mIfS, mNot, mB, mIsC, mVar, isC, mRet, mC, mTV, mAnd, mOr, mBin, mFld, dEqF, flV, retM, DL.bindM, mNx, mCall, lenM, mCons, mNil, mTup, mIsT, isT, mSet, mAsg, tgTup, tgCons, tgN, tgNil, mk_Ratio_1, mk_Ratio_2, mCallO, lenO, runO, mRetO, mLst, mIf, mUn, dNegI, mIsT2, mNoP, mPart, oListC, mDrop, mNever, hat, md, t3, t5, cInt, dAddI, dII]
theorem lawmoved_eq {p : Nat} (hp : isP p) {m : Mv} (hm : Good' p m) {q : Int × Int} (hq : Pl p q) : d__law_moved [.int p, m.d, plD q] = retM (plD (act p m q)) := by
  obtain ⟨x, y⟩ := q
  obtain ⟨h1, h2, h3, h4⟩ := hq
  have hle := hp.le
  dsimp only at h1 h2 h3 h4
  have md : ∀ i, dModI (.int i) (.int (p : Nat)) = retM (.int (i % (p : Int))) := fun i => mod_small hp
  have t1 := turn_y
  have t2 := turn_n1
  have t3 := turn_n2
  have t4 := y_y
  have t5 := y_n
  funext s
  cases m with
  | turn c =>
    obtain ⟨c1, c2⟩ := hm
    have hmul := mul_small (i := y) (j := c) h3 (by omega) (by omega) (by omega)
    simp only [d__law_moved, m__law_moved, runD, env0, Mv.d, plD, act]
    generalize dEqF = eqf at *
    simp [runD, env0, mSeq, mIfS, mNot, mB, mIsC, mVar, isC, mRet, mC, mTV, mAnd, mOr, mBin, mFld, dEqF, flV, retM, DL.bindM, mNx, mCall, lenM, mCons, mNil, mTup, mIsT, isT, mSet, mAsg, tgTup, tgCons, tgN, tgNil, mk_Ratio_1, mk_Ratio_2, mCallO, lenO, runO, mRetO, mLst, mIf, mUn, dNegI, mIsT2, mNoP, mPart, oListC, mDrop, mNever, hmul, md, t1, cInt]
  | col tp xs =>
    have hat := at_seq (tp := tp) (xs := xs) h1 (by rw [hm.1]; exact h2)
    simp only [d__law_moved, m__law_moved, runD, env0, Mv.d, plD, act]
    generalize dEqF = eqf at *
    generalize seqD tp xs = sd at *
    simp [runD, env0, mSeq, mIfS, mNot, mB, mIsC, mVar, isC, mRet, mC, mTV, mAnd, mOr, mBin, mFld, dEqF, flV, retM, DL.bindM, mNx, mCall, lenM, mCons, mNil, mTup, mIsT, isT, mSet, mAsg, tgTup, tgCons, tgN, tgNil, mk_Ratio_1, mk_Ratio_2, mCallO, lenO, runO, mRetO, mLst, mIf, mUn, dNegI, mIsT2, mNoP, mPart, oListC, mDrop, mNever, hat, md, t2, t4, cInt, dAddI, dII]
  | row tp xs =>
    have hat := at_seq (tp := tp) (xs := xs) h3 (by rw [hm.1]; exact h4)
    simp only [d__law_moved, m__law_moved, runD, env0, Mv.d, plD, act]
    generalize dEqF = eqf at *
    generalize seqD tp xs = sd at *
    simp [runD, env0, mSeq, mIfS, mNot, mB, mIsC, mVar, isC, mRet, mC, mTV, mAnd, mOr, mBin, mFld, dEqF, flV, retM, DL.bindM, mNx, mCall, lenM, mCons, mNil, mTup, mIsT, isT, mSet, mAsg, tgTup, tgCons, tgN, tgNil, mk_Ratio_1, mk_Ratio_2, mCallO, lenO, runO, mRetO, mLst, mIf, mUn, dNegI, mIsT2, mNoP, mPart, oListC, mDrop, mNever, hat, md, t3, t5, cInt, dAddI, dII]
/-! ### places -/
def plF (p : Nat) : List (Int × Int) := (List.range p).flatMap fun x => (List.range p).map fun y => (((x : Nat) : Int), ((y : Nat) : Int))
def plR (p : Nat) : List (Int × Int) := (List.range (p * p)).map fun s => (((s / p : Nat) : Int), ((s % p : Nat) : Int))
theorem pl_eq {p : Nat} (hp : isP p) : plF p = plR p := by
  rcases hp with rfl | rfl | rfl | rfl <;> decide +kernel
theorem places_eq {p : Nat} (hp : isP p) : o_places [.int p] = retM ((plF p).map plD) := by
  rcases hp with rfl | rfl | rfl | rfl <;> (funext q; rfl)
end Q
end

section
set_option Elab.async false
set_option linter.all false
set_option maxRecDepth 100000
set_option maxHeartbeats 4000000
set_option exponentiation.threshold 20000
/-! k42: what plays make. -/
namespace Q
open DL PySem PyProof.Rows
def spot (p : Nat) (q : Int × Int) : Int := q.1 * p + q.2
def actAll (p : Nat) (ms : List Mv) (q : Int × Int) : Int × Int := ms.foldl (fun q m => act p m q) q
def deal (p : Nat) (ms : List Mv) : List Int := (plF p).map fun q => spot p (actAll p ms q)
theorem plF_pl {p : Nat} {q : Int × Int} (h : q ∈ plF p) : Pl p q := by
  unfold plF at h
  obtain ⟨x, hx, h⟩ := List.mem_flatMap.mp h
  obtain ⟨y, hy, rfl⟩ := List.mem_map.mp h
  have := List.mem_range.mp hx
  have := List.mem_range.mp hy
  refine ⟨?_, ?_, ?_, ?_⟩ <;> (dsimp only; omega)
theorem actAll_pl {p : Nat} (hp : isP p) : ∀ (ms : List Mv) {q : Int × Int}, Pl p q → Pl p (actAll p ms q)
  | [], _, h => h
  | m :: ms, _, h => actAll_pl hp ms (act_pl hp h)
theorem spot_eq {p : Nat} (hp : isP p) {q : Int × Int} (hq : Pl p q) : d_spot_of [.int p, plD q] = retM (.int (spot p q)) := by
  obtain ⟨x, y⟩ := q
  obtain ⟨h1, h2, h3, h4⟩ := hq
  have hle := hp.le
  dsimp only at h1 h2 h3 h4
  have hmul := mul_small (i := x) (j := (p : Int)) h1 (by omega) (by omega) (by omega)
  funext s
  simp [runD, env0, mSeq, mIfS, mNot, mB, mIsC, mVar, isC, mRet, mC, mTV, mAnd, mOr, mBin, mFld, dEqF, flV, retM, DL.bindM, mNx, mCall, lenM, mCons, mNil, mTup, mIsT, isT, mSet, mAsg, tgTup, tgCons, tgN, tgNil, mk_Ratio_1, mk_Ratio_2, mCallO, lenO, runO, mRetO, mLst, mIf, mUn, dNegI, mIsT2, mNoP, mPart, oListC, mDrop, mNever, d_spot_of, m_spot_of, plD, at0, at1, hmul, dAddI, dII, spot]
theorem movedeal_eq {p : Nat} (hp : isP p) {m : Mv} (hm : Good' p m) : o_move_deal [.int p, m.d] = retM ((deal p [m]).map .int) := by
  have h1 := places_eq hp
  have hc : compM (tgN 2) mYes (mCall (lenM 2 d_spot_of) (mCons (mVar 0) (mCons (mCall (lenM 3 d_moved_place) (mCons (mVar 0) (mCons (mVar 1) (mCons (mVar 2) mNil)))) mNil))) [.val (.int (p : Nat)), .val m.d, .un] ((plF p).map plD) = retM ((plF p).map fun q => .int (spot p (actAll p [m] q))) := comp_map fun q hq => by
    have h2 := moved_eq hp hm (plF_pl hq)
    have h3 := spot_eq hp (act_pl hp (m := m) (plF_pl hq))
    funext s
    simp [runD, env0, mSeq, mIfS, mNot, mB, mIsC, mVar, isC, mRet, mC, mTV, mAnd, mOr, mBin, mFld, dEqF, flV, retM, DL.bindM, mNx, mCall, lenM, mCons, mNil, mTup, mIsT, isT, mSet, mAsg, tgTup, tgCons, tgN, tgNil, mk_Ratio_1, mk_Ratio_2, mCallO, lenO, runO, mRetO, mLst, mIf, mUn, dNegI, mIsT2, mNoP, mPart, oListC, mDrop, mNever, h2, h3, actAll]
  have hl : (plF p).length ≤ 100000 := by
    rw [pl_eq hp]
    unfold plR
    rw [List.length_map, List.length_range]
    exact Nat.le_trans (sq_le hp.le) (by decide)
  have hm2 : m_move_deal = mRetO (mLc (srcL (mLst (mCallO (lenO 1 o_places) (mCons (mVar 0) mNil)))) [2] (tgN 2) mYes (mCall (lenM 2 d_spot_of) (mCons (mVar 0) (mCons (mCall (lenM 3 d_moved_place) (mCons (mVar 0) (mCons (mVar 1) (mCons (mVar 2) mNil)))) mNil)))) := rfl
  generalize mCall (lenM 2 d_spot_of) (mCons (mVar 0) (mCons (mCall (lenM 3 d_moved_place) (mCons (mVar 0) (mCons (mVar 1) (mCons (mVar 2) mNil)))) mNil)) = el at *
  unfold deal
  rw [List.map_map]
  funext s
  simp [runD, env0, mSeq, mIfS, mNot, mB, mIsC, mVar, isC, mRet, mC, mTV, mAnd, mOr, mBin, mFld, dEqF, flV, retM, DL.bindM, mNx, mCall, lenM, mCons, mNil, mTup, mIsT, isT, mSet, mAsg, tgTup, tgCons, tgN, tgNil, mk_Ratio_1, mk_Ratio_2, mCallO, lenO, runO, mRetO, mLst, mIf, mUn, dNegI, mIsT2, mNoP, mPart, oListC, mDrop, mNever, o_move_deal, hm2, h1, mLc, srcL, hl, wipeE, hc]
/-- the table's item at a spot -/
theorem table_at {p : Nat} (hp : isP p) (f : Int × Int → Int) {q : Int × Int} (hq : Pl p q) : atD (.lst (((plF p).map f).map .int)) (.int (spot p q)) = retM (.int (f q)) := by
  obtain ⟨x, y⟩ := q
  obtain ⟨h1, h2, h3, h4⟩ := hq
  dsimp only at h1 h2 h3 h4
  obtain ⟨a, rfl⟩ := Int.eq_ofNat_of_zero_le h1
  obtain ⟨b, rfl⟩ := Int.eq_ofNat_of_zero_le h3
  have ha : a < p := by omega
  have hb : b < p := by omega
  have hs : spot p ((a : Int), (b : Int)) = ((a * p + b : Nat) : Int) := by
    unfold spot
    push_cast
    rfl
  have hlt : a * p + b < p * p := by
    have : a * p + p ≤ p * p := by
      rw [← Nat.succ_mul]
      exact Nat.mul_le_mul_right p ha
    omega
  have hd : (a * p + b) / p = a := by
    rw [Nat.add_comm, Nat.add_mul_div_right _ _ (by omega), Nat.div_eq_of_lt hb, Nat.zero_add]
  have hmod : (a * p + b) % p = b := by
    rw [Nat.add_comm, Nat.add_mul_mod_self_right, Nat.mod_eq_of_lt hb]
  have hg : (((plF p).map f).map D.int)[a * p + b]? = some (.int (f ((a : Int), (b : Int)))) := by
    rw [pl_eq hp]
    unfold plR
    rw [List.getElem?_map, List.getElem?_map, List.getElem?_map, List.getElem?_range hlt]
    simp only [Option.map_some, hd, hmod]
  have hlen : (((plF p).map f).map D.int).length = p * p := by
    rw [pl_eq hp]
    unfold plR
    simp [runD, env0, mSeq, mIfS, mNot, mB, mIsC, mVar, isC, mRet, mC, mTV, mAnd, mOr, mBin, mFld, dEqF, flV, retM, DL.bindM, mNx, mCall, lenM, mCons, mNil, mTup, mIsT, isT, mSet, mAsg, tgTup, tgCons, tgN, tgNil, mk_Ratio_1, mk_Ratio_2, mCallO, lenO, runO, mRetO, mLst, mIf, mUn, dNegI, mIsT2, mNoP, mPart, oListC, mDrop, mNever]
  have e : L2.atI (((plF p).map f).map D.int) (spot p ((a : Int), (b : Int))) = some (.int (f ((a : Int), (b : Int)))) := by
    unfold L2.atI L2.ixN
    rw [hlen, hs, if_pos (by omega), if_pos (by exact_mod_cast hlt)]
    show (((plF p).map f).map D.int)[(((a * p + b : Nat) : Int)).toNat]? = _
    rw [Int.toNat_natCast]
    exact hg
  unfold atD
  dsimp only
  rw [e]
theorem behind_eq {p : Nat} (hp : isP p) (f g : Int × Int → Int × Int) (hg : ∀ q, Pl p q → Pl p (g q)) : o_behind_table [.lst (((plF p).map fun q => spot p (f q)).map .int), .lst (((plF p).map fun q => spot p (g q)).map .int)] = retM (((plF p).map fun q => spot p (f (g q))).map .int) := by
  have hc : compM (tgN 2) mYes (mBin atD (mVar 0) (mVar 2)) [.val (.lst (((plF p).map fun q => spot p (f q)).map .int)), .val (.lst (((plF p).map fun q => spot p (g q)).map .int)), .un] ((plF p).map fun q => .int (spot p (g q))) = retM ((plF p).map fun q => .int (spot p (f (g q)))) := comp_map fun q hq => by
    have h1 := table_at hp (fun q => spot p (f q)) (hg q (plF_pl hq))
    generalize ((plF p).map fun q => spot p (f q)).map D.int = tb at *
    funext s
    simp [runD, env0, mSeq, mIfS, mNot, mB, mIsC, mVar, isC, mRet, mC, mTV, mAnd, mOr, mBin, mFld, dEqF, flV, retM, DL.bindM, mNx, mCall, lenM, mCons, mNil, mTup, mIsT, isT, mSet, mAsg, tgTup, tgCons, tgN, tgNil, mk_Ratio_1, mk_Ratio_2, mCallO, lenO, runO, mRetO, mLst, mIf, mUn, dNegI, mIsT2, mNoP, mPart, oListC, mDrop, mNever, h1]
  have hl : ((plF p).map fun q => D.int (spot p (g q))).length ≤ 100000 := by
    rw [pl_eq hp]
    unfold plR
    rw [List.length_map, List.length_map, List.length_range]
    exact Nat.le_trans (sq_le hp.le) (by decide)
  have hm : m_behind_table = mRetO (mLc (srcL (mVar 1)) [2] (tgN 2) mYes (mBin atD (mVar 0) (mVar 2))) := rfl
  rw [List.map_map (f := fun q => spot p (g q)), List.map_map (f := fun q => spot p (f (g q)))]
  rw [List.map_map (f := fun q => spot p (g q))] at hc
  have e1 : (plF p).map (D.int ∘ fun q => spot p (g q)) = (plF p).map fun q => .int (spot p (g q)) := rfl
  have e2 : (plF p).map (D.int ∘ fun q => spot p (f (g q))) = (plF p).map fun q => .int (spot p (f (g q))) := rfl
  rw [e1, e2]
  rw [e1] at hc
  generalize ((plF p).map fun q => spot p (f q)).map D.int = tb at *
  generalize ((plF p).map fun q => D.int (spot p (g q))) = gl at *
  generalize mBin atD (mVar 0) (mVar 2) = el at *
  funext s
  simp [runD, env0, mSeq, mIfS, mNot, mB, mIsC, mVar, isC, mRet, mC, mTV, mAnd, mOr, mBin, mFld, dEqF, flV, retM, DL.bindM, mNx, mCall, lenM, mCons, mNil, mTup, mIsT, isT, mSet, mAsg, tgTup, tgCons, tgN, tgNil, mk_Ratio_1, mk_Ratio_2, mCallO, lenO, runO, mRetO, mLst, mIf, mUn, dNegI, mIsT2, mNoP, mPart, oListC, mDrop, mNever, o_behind_table, hm, mLc, srcL, hl, wipeE, hc]
theorem spot_pl {p : Nat} (hp : isP p) : rngI (p * p) = (plF p).map (spot p) := by
  rcases hp with rfl | rfl | rfl | rfl <;> decide +kernel
theorem dealby_loop {p : Nat} (hp : isP p) (v : D) : ∀ (ms ns : List Mv) (v3 : SV), (∀ m ∈ ms, Good' p m) → ∃ w, loopM (mTg (tgN 3) (mSet 2 (mLst (mCallO (lenO 2 o_behind_table) (mCons (mLst (mCallO (lenO 2 o_move_deal) (mCons (mVar 0) (mCons (mVar 3) mNil)))) (mCons (mVar 2) mNil)))))) (ms.map Mv.d) [.val (.int (p : Nat)), .val v, .val (.lst ((deal p ns).map .int)), v3] = retM (.nx, [.val (.int (p : Nat)), .val v, .val (.lst ((deal p (ns ++ ms)).map .int)), w])
  | [], ns, v3, _ => ⟨v3, by rw [List.append_nil]; rfl⟩
  | m :: ms, ns, v3, h => by
    obtain ⟨w, e⟩ := dealby_loop hp v ms (ns ++ [m]) (.val m.d) fun m' hm' => h m' (List.mem_cons_of_mem _ hm')
    refine ⟨w, ?_⟩
    have h1 := movedeal_eq hp (h m List.mem_cons_self)
    have h2 := behind_eq hp (actAll p [m]) (actAll p ns) fun q hq => actAll_pl hp ns hq
    have e3 : ((plF p).map fun q => spot p (actAll p [m] (actAll p ns q))) = deal p (ns ++ [m]) := by
      unfold deal actAll
      refine List.map_congr_left fun q _ => ?_
      rw [List.foldl_append]
    rw [e3] at h2
    rw [List.append_assoc] at e
    have h2' : o_behind_table [.lst ((deal p [m]).map .int), .lst ((deal p ns).map .int)] = retM ((deal p (ns ++ [m])).map .int) := h2
    have es : ns ++ ([m] ++ ms) = ns ++ m :: ms := rfl
    rw [es] at e
    rw [← e]
    generalize deal p (ns ++ [m]) = dn at *
    generalize deal p [m] = dm at *
    generalize deal p ns = d0 at *
    funext s
    rw [List.map_cons]
    conv => lhs; unfold loopM
    simp [runD, env0, mSeq, mIfS, mNot, mB, mIsC, mVar, isC, mRet, mC, mTV, mAnd, mOr, mBin, mFld, dEqF, flV, retM, DL.bindM, mNx, mCall, lenM, mCons, mNil, mTup, mIsT, isT, mSet, mAsg, tgTup, tgCons, tgN, tgNil, mk_Ratio_1, mk_Ratio_2, mCallO, lenO, runO, mRetO, mLst, mIf, mUn, dNegI, mIsT2, mNoP, mPart, oListC, mDrop, mNever, mTg, h1, h2']
theorem dealby_eq {p : Nat} (hp : isP p) {v : D} {ms : List Mv} (hi : itemsD v = some (ms.map Mv.d)) (hg : ∀ m ∈ ms, Good' p m) : d_deal_by [.int p, v] = retM (.lst ((deal p ms).map .int)) := by
  obtain ⟨w, e⟩ := dealby_loop hp v ms [] .un hg
  rw [List.nil_append] at e
  have h0 : oRg1 (mBin dMulI (mVar 0) (mVar 0)) [.val (.int (p : Nat)), .val v, .un, .un] = retM ((deal p []).map .int) := by
    rw [rg1 (n := p * p) (by have := mulP p hp.le; funext q; simp [runD, env0, mSeq, mIfS, mNot, mB, mIsC, mVar, isC, mRet, mC, mTV, mAnd, mOr, mBin, mFld, dEqF, flV, retM, DL.bindM, mNx, mCall, lenM, mCons, mNil, mTup, mIsT, isT, mSet, mAsg, tgTup, tgCons, tgN, tgNil, mk_Ratio_1, mk_Ratio_2, mCallO, lenO, runO, mRetO, mLst, mIf, mUn, dNegI, mIsT2, mNoP, mPart, oListC, mDrop, mNever, this]) (Nat.le_trans (sq_le hp.le) (by decide)), spot_pl hp]
    rfl
  have hs : srcS (mVar 1) [.val (.int (p : Nat)), .val v, .val (.lst ((deal p []).map .int)), .un] = retM (ms.map Mv.d) := src_items hi rfl
  have hm : m_deal_by = mSeq (mSet 2 (mLst (oRg1 (mBin dMulI (mVar 0) (mVar 0))))) (mSeq (mFor (srcS (mVar 1)) (tgN 3) (mSet 2 (mLst (mCallO (lenO 2 o_behind_table) (mCons (mLst (mCallO (lenO 2 o_move_deal) (mCons (mVar 0) (mCons (mVar 3) mNil)))) (mCons (mVar 2) mNil)))))) (mRet (mVar 2))) := rfl
  generalize mSet 2 (mLst (mCallO (lenO 2 o_behind_table) (mCons (mLst (mCallO (lenO 2 o_move_deal) (mCons (mVar 0) (mCons (mVar 3) mNil)))) (mCons (mVar 2) mNil)))) = body at *
  generalize oRg1 (mBin dMulI (mVar 0) (mVar 0)) = rg at *
  generalize srcS (mVar 1) = sr at *
  funext s
  simp [runD, env0, mSeq, mIfS, mNot, mB, mIsC, mVar, isC, mRet, mC, mTV, mAnd, mOr, mBin, mFld, dEqF, flV, retM, DL.bindM, mNx, mCall, lenM, mCons, mNil, mTup, mIsT, isT, mSet, mAsg, tgTup, tgCons, tgN, tgNil, mk_Ratio_1, mk_Ratio_2, mCallO, lenO, runO, mRetO, mLst, mIf, mUn, dNegI, mIsT2, mNoP, mPart, oListC, mDrop, mNever, d_deal_by, hm, h0, mFor, hs, e]
end Q
end

section
set_option Elab.async false
set_option linter.all false
set_option maxRecDepth 100000
set_option maxHeartbeats 4000000
set_option exponentiation.threshold 20000
/-! k42: what plays make, by the law; they make deals. -/
namespace Q
open DL PySem PyProof.Rows
def mvBody : MS := mSet 5 (mCall (lenM 3 d__law_moved) (mCons (mVar 0) (mCons (mVar 6) (mCons (mVar 5) mNil))))
theorem played_in {p : Nat} (hp : isP p) (v : D) (fd : List D) (a b : D) : ∀ (ms : List Mv) (q : Int × Int) (v6 : SV), Pl p q → (∀ m ∈ ms, Good' p m) → ∃ w, loopM (mTg (tgN 6) mvBody) (ms.map Mv.d) [.val (.int (p : Nat)), .val v, .own fd, .val a, .val b, .val (plD q), v6] = retM (.nx, [.val (.int (p : Nat)), .val v, .own fd, .val a, .val b, .val (plD (actAll p ms q)), w])
  | [], q, v6, _, _ => ⟨v6, rfl⟩
  | m :: ms, q, v6, hq, h => by
    obtain ⟨w, e⟩ := played_in hp v fd a b ms (act p m q) (.val m.d) (act_pl hp hq) fun m' hm' => h m' (List.mem_cons_of_mem _ hm')
    refine ⟨w, ?_⟩
    have h1 := lawmoved_eq hp (h m List.mem_cons_self) hq
    have es : actAll p (m :: ms) q = actAll p ms (act p m q) := rfl
    rw [es, ← e]
    funext s
    rw [List.map_cons]
    conv => lhs; unfold loopM
    generalize plD q = Q0 at *
    generalize plD (act p m q) = Q1 at *
    simp [runD, env0, mSeq, mIfS, mNot, mB, mIsC, mVar, isC, mRet, mC, mTV, mAnd, mOr, mBin, mFld, dEqF, flV, retM, DL.bindM, mNx, mCall, lenM, mCons, mNil, mTup, mIsT, isT, mSet, mAsg, tgTup, tgCons, tgN, tgNil, mk_Ratio_1, mk_Ratio_2, mCallO, lenO, runO, mRetO, mLst, mIf, mUn, dNegI, mIsT2, mNoP, mPart, oListC, mDrop, mNever, mTg, mvBody, h1]
def plBody : MS := mSeq (mSet 5 (mTup (mCons (mVar 3) (mCons (mVar 4) mNil)))) (mSeq (mFor (srcS (mVar 1)) (tgN 6) mvBody) (mApp 2 (mBin dAddI (mBin dMulI (mBin atD (mVar 5) (mC (.int 0))) (mVar 0)) (mBin atD (mVar 5) (mC (.int 1))))))
theorem pl_body {p : Nat} (hp : isP p) {v : D} {ms : List Mv} (hi : itemsD v = some (ms.map Mv.d)) (hg : ∀ m ∈ ms, Good' p m) (fd : List D) (hf : fd.length ≤ 100000) (q : Int × Int) (hq : Pl p q) (v5 v6 : SV) : ∃ w5 w6, plBody [.val (.int (p : Nat)), .val v, .own fd, .val (.int q.1), .val (.int q.2), v5, v6] = retM (.nx, [.val (.int (p : Nat)), .val v, .own (fd ++ [.int (spot p (actAll p ms q))]), .val (.int q.1), .val (.int q.2), w5, w6]) := by
  obtain ⟨w, e⟩ := played_in hp v fd (.int q.1) (.int q.2) ms q v6 hq hg
  refine ⟨.val (plD (actAll p ms q)), w, ?_⟩
  have hq2 := actAll_pl hp ms hq
  have hs : srcS (mVar 1) [.val (.int (p : Nat)), .val v, .own fd, .val (.int q.1), .val (.int q.2), .val (plD q), v6] = retM (ms.map Mv.d) := src_items hi rfl
  have hle := hp.le
  obtain ⟨h1, h2, h3, h4⟩ := hq2
  have hmul := mul_small (i := (actAll p ms q).1) (j := (p : Int)) h1 (by omega) (by omega) (by omega)
  have hpl : D.tup [.int q.1, .int q.2] = plD q := rfl
  have ea : ∀ i : Int, atD (plD (actAll p ms q)) (.int 0) = retM (.int (actAll p ms q).1) := fun _ => rfl
  have eb : ∀ i : Int, atD (plD (actAll p ms q)) (.int 1) = retM (.int (actAll p ms q).2) := fun _ => rfl
  have ea := ea 0
  have eb := eb 0
  unfold spot plBody
  generalize mvBody = body at *
  generalize srcS (mVar 1) = sr at *
  generalize actAll p ms q = Q1 at *
  funext s
  simp [runD, env0, mSeq, mIfS, mNot, mB, mIsC, mVar, isC, mRet, mC, mTV, mAnd, mOr, mBin, mFld, dEqF, flV, retM, DL.bindM, mNx, mCall, lenM, mCons, mNil, mTup, mIsT, isT, mSet, mAsg, tgTup, tgCons, tgN, tgNil, mk_Ratio_1, mk_Ratio_2, mCallO, lenO, runO, mRetO, mLst, mIf, mUn, dNegI, mIsT2, mNoP, mPart, oListC, mDrop, mNever, hpl, mFor, hs, e, mApp, ea, eb, hmul, dAddI, dII, hf]
theorem pl_row {p : Nat} (hp : isP p) {v : D} {ms : List Mv} (hi : itemsD v = some (ms.map Mv.d)) (hg : ∀ m ∈ ms, Good' p m) (x : Nat) (hx : x < p) : ∀ (ys : List Nat) (fd : List D) (v4 v5 v6 : SV), (∀ y ∈ ys, y < p) → fd.length + ys.length ≤ 100000 → ∃ w4 w5 w6, loopM (mTg (tgN 4) plBody) (ys.map fun y : Nat => D.int (y : Int)) [.val (.int (p : Nat)), .val v, .own fd, .val (.int (x : Int)), v4, v5, v6] = retM (.nx, [.val (.int (p : Nat)), .val v, .own (fd ++ ys.map fun y : Nat => .int (spot p (actAll p ms ((x : Int), (y : Int))))), .val (.int (x : Int)), w4, w5, w6])
  | [], fd, v4, v5, v6, _, _ => ⟨v4, v5, v6, by rw [List.map_nil, List.map_nil, List.append_nil]; rfl⟩
  | y :: ys, fd, v4, v5, v6, hy, hl => by
    rw [List.length_cons] at hl
    have hyp := hy y List.mem_cons_self
    obtain ⟨a5, a6, e1⟩ := pl_body hp hi hg fd (by omega) ((x : Int), (y : Int)) ⟨by dsimp only; omega, by dsimp only; omega, by dsimp only; omega, by dsimp only; omega⟩ v5 v6
    obtain ⟨w4, w5, w6, e2⟩ := pl_row hp hi hg x hx ys (fd ++ [.int (spot p (actAll p ms ((x : Int), (y : Int))))]) (.val (.int (y : Int))) a5 a6 (fun z hz => hy z (List.mem_cons_of_mem _ hz)) (by rw [List.length_append, List.length_singleton]; omega)
    refine ⟨w4, w5, w6, ?_⟩
    rw [List.append_assoc] at e2
    have es : ∀ (d : D) (l : List D), [d] ++ l = d :: l := fun _ _ => rfl
    rw [es] at e2
    rw [List.map_cons, List.map_cons, ← e2]
    dsimp only at e1
    generalize plBody = body at *
    funext s
    conv => lhs; unfold loopM
    simp [runD, env0, mSeq, mIfS, mNot, mB, mIsC, mVar, isC, mRet, mC, mTV, mAnd, mOr, mBin, mFld, dEqF, flV, retM, DL.bindM, mNx, mCall, lenM, mCons, mNil, mTup, mIsT, isT, mSet, mAsg, tgTup, tgCons, tgN, tgNil, mk_Ratio_1, mk_Ratio_2, mCallO, lenO, runO, mRetO, mLst, mIf, mUn, dNegI, mIsT2, mNoP, mPart, oListC, mDrop, mNever, mTg, e1]
theorem pl_all {p : Nat} (hp : isP p) {v : D} {ms : List Mv} (hi : itemsD v = some (ms.map Mv.d)) (hg : ∀ m ∈ ms, Good' p m) : ∀ (xs : List Nat) (fd : List D) (v3 v4 v5 v6 : SV), (∀ x ∈ xs, x < p) → fd.length + xs.length * p ≤ 100000 → ∃ w3 w4 w5 w6, loopM (mTg (tgN 3) (mFor (srcR1 (mCons (mVar 0) mNil)) (tgN 4) plBody)) (xs.map fun x : Nat => D.int (x : Int)) [.val (.int (p : Nat)), .val v, .own fd, v3, v4, v5, v6] = retM (.nx, [.val (.int (p : Nat)), .val v, .own (fd ++ xs.flatMap fun x : Nat => (List.range p).map fun y : Nat => D.int (spot p (actAll p ms ((x : Int), (y : Int))))), w3, w4, w5, w6])
  | [], fd, v3, v4, v5, v6, _, _ => ⟨v3, v4, v5, v6, by rw [List.map_nil, List.flatMap_nil, List.append_nil]; rfl⟩
  | x :: xs, fd, v3, v4, v5, v6, hx, hl => by
    rw [List.length_cons, Nat.succ_mul] at hl
    obtain ⟨a4, a5, a6, e1⟩ := pl_row hp hi hg x (hx x List.mem_cons_self) (List.range p) fd v4 v5 v6 (fun y hy => List.mem_range.mp hy) (by rw [List.length_range]; omega)
    obtain ⟨w3, w4, w5, w6, e2⟩ := pl_all hp hi hg xs (fd ++ (List.range p).map fun y : Nat => D.int (spot p (actAll p ms ((x : Int), (y : Int))))) (.val (.int (x : Int))) a4 a5 a6 (fun z hz => hx z (List.mem_cons_of_mem _ hz)) (by rw [List.length_append, List.length_map, List.length_range]; omega)
    refine ⟨w3, w4, w5, w6, ?_⟩
    rw [List.append_assoc] at e2
    rw [List.map_cons, List.flatMap_cons, ← e2]
    have hle := hp.le
    have hr : srcR1 (mCons (mVar 0) mNil) [.val (.int (p : Nat)), .val v, .own fd, .val (.int (x : Int)), v4, v5, v6] = retM ((List.range p).map fun y : Nat => D.int (y : Int)) := by
      have h1 : (-1000000 : Int) ≤ (p : Int) ∧ (p : Int) ≤ 1000000 := by omega
      have h2 : rngD 0 p = (List.range p).map fun y : Nat => D.int (y : Int) := by rw [rng_eq]; unfold rngI; rw [List.map_map]; rfl
      have h3 : (p : Int) ≤ 1000000 := by omega
      funext s
      simp [runD, env0, mSeq, mIfS, mNot, mB, mIsC, mVar, isC, mRet, mC, mTV, mAnd, mOr, mBin, mFld, dEqF, flV, retM, DL.bindM, mNx, mCall, lenM, mCons, mNil, mTup, mIsT, isT, mSet, mAsg, tgTup, tgCons, tgN, tgNil, mk_Ratio_1, mk_Ratio_2, mCallO, lenO, runO, mRetO, mLst, mIf, mUn, dNegI, mIsT2, mNoP, mPart, oListC, mDrop, mNever, srcR1, h3, h2]
    generalize plBody = body at *
    generalize srcR1 (mCons (mVar 0) mNil) = sr at *
    generalize ((List.range p).map fun y : Nat => D.int (spot p (actAll p ms ((x : Int), (y : Int))))) = rw0 at *
    generalize ((List.range p).map fun y : Nat => D.int (y : Int)) = ry at *
    funext s
    conv => lhs; unfold loopM
    simp [runD, env0, mSeq, mIfS, mNot, mB, mIsC, mVar, isC, mRet, mC, mTV, mAnd, mOr, mBin, mFld, dEqF, flV, retM, DL.bindM, mNx, mCall, lenM, mCons, mNil, mTup, mIsT, isT, mSet, mAsg, tgTup, tgCons, tgN, tgNil, mk_Ratio_1, mk_Ratio_2, mCallO, lenO, runO, mRetO, mLst, mIf, mUn, dNegI, mIsT2, mNoP, mPart, oListC, mDrop, mNever, mTg, mFor, hr, e1]
theorem played_eq {p : Nat} (hp : isP p) {v : D} {ms : List Mv} (hi : itemsD v = some (ms.map Mv.d)) (hg : ∀ m ∈ ms, Good' p m) : o__law_played [.int p, v] = retM ((deal p ms).map .int) ∧ d__law_played [.int p, v] = retM (.lst ((deal p ms).map .int)) := by
  have hle := hp.le
  have hsq := sq_le hle
  obtain ⟨w3, w4, w5, w6, e⟩ := pl_all hp hi hg (List.range p) [] .un .un .un .un (fun x hx => List.mem_range.mp hx) (by rw [List.length_range]; show 0 + p * p ≤ _; omega)
  have hd : (([] : List D) ++ (List.range p).flatMap fun x : Nat => (List.range p).map fun y : Nat => D.int (spot p (actAll p ms ((x : Int), (y : Int))))) = (deal p ms).map D.int := by
    unfold deal plF
    rw [List.nil_append, List.map_flatMap, List.map_flatMap]
    refine congrArg (fun f => (List.range p).flatMap f) (funext fun x => ?_)
    rw [List.map_map, List.map_map]
    rfl
  rw [hd] at e
  have hr : srcR1 (mCons (mVar 0) mNil) [.val (.int (p : Nat)), .val v, .own [], .un, .un, .un, .un] = retM ((List.range p).map fun y : Nat => D.int (y : Int)) := by
    have h2 : rngD 0 p = (List.range p).map fun y : Nat => D.int (y : Int) := by rw [rng_eq]; unfold rngI; rw [List.map_map]; rfl
    have h3 : (p : Int) ≤ 1000000 := by omega
    funext s
    simp [runD, env0, mSeq, mIfS, mNot, mB, mIsC, mVar, isC, mRet, mC, mTV, mAnd, mOr, mBin, mFld, dEqF, flV, retM, DL.bindM, mNx, mCall, lenM, mCons, mNil, mTup, mIsT, isT, mSet, mAsg, tgTup, tgCons, tgN, tgNil, mk_Ratio_1, mk_Ratio_2, mCallO, lenO, runO, mRetO, mLst, mIf, mUn, dNegI, mIsT2, mNoP, mPart, oListC, mDrop, mNever, srcR1, h3, h2]
  have hm : m__law_played = mSeq (mSetO 2 (mNew mNil)) (mSeq (mFor (srcR1 (mCons (mVar 0) mNil)) (tgN 3) (mFor (srcR1 (mCons (mVar 0) mNil)) (tgN 4) plBody)) (mRetX 2)) := rfl
  generalize hF : mFor (srcR1 (mCons (mVar 0) mNil)) (tgN 4) plBody = F at *
  generalize srcR1 (mCons (mVar 0) mNil) = sr at *
  constructor <;> (funext s; simp [runD, env0, mSeq, mIfS, mNot, mB, mIsC, mVar, isC, mRet, mC, mTV, mAnd, mOr, mBin, mFld, dEqF, flV, retM, DL.bindM, mNx, mCall, lenM, mCons, mNil, mTup, mIsT, isT, mSet, mAsg, tgTup, tgCons, tgN, tgNil, mk_Ratio_1, mk_Ratio_2, mCallO, lenO, runO, mRetO, mLst, mIf, mUn, dNegI, mIsT2, mNoP, mPart, oListC, mDrop, mNever, o__law_played, d__law_played, hm, mSetO, mNew, mFor, hr, e, mRetX])
/-! ### plays make deals -/
theorem act_inj {p : Nat} (hp : isP p) {m : Mv} (hm : Good' p m) {q r : Int × Int} (hq : Pl p q) (hr : Pl p r) (h : act p m q = act p m r) : q = r := by
  obtain ⟨x, y⟩ := q
  obtain ⟨x', y'⟩ := r
  obtain ⟨h1, h2, h3, h4⟩ := hq
  obtain ⟨g1, g2, g3, g4⟩ := hr
  dsimp only at h1 h2 h3 h4 g1 g2 g3 g4
  cases m with
  | turn c =>
    obtain ⟨c1, c2⟩ := hm
    have e := Prod.mk.inj h
    have e2 : (y * c) % (p : Int) = (y' * c) % (p : Int) := e.2
    refine Prod.ext e.1 ?_
    show y = y'
    rcases hp with rfl | rfl | rfl | rfl
    · have : c = 1 ∨ c = 2 := by omega
      rcases this with rfl | rfl <;> omega
    · have : c = 1 ∨ c = 2 ∨ c = 3 ∨ c = 4 := by omega
      rcases this with rfl | rfl | rfl | rfl <;> omega
    · have : c = 1 ∨ c = 2 ∨ c = 3 ∨ c = 4 ∨ c = 5 ∨ c = 6 := by omega
      rcases this with rfl | rfl | rfl | rfl | rfl | rfl <;> omega
    · have : c = 1 ∨ c = 2 ∨ c = 3 ∨ c = 4 ∨ c = 5 ∨ c = 6 ∨ c = 7 ∨ c = 8 ∨ c = 9 ∨ c = 10 := by omega
      rcases this with rfl | rfl | rfl | rfl | rfl | rfl | rfl | rfl | rfl | rfl <;> omega
  | col tp xs =>
    have e := Prod.mk.inj h
    have e1 : x = x' := e.1
    subst e1
    have e2 : (y + xs.getD x.toNat 0) % (p : Int) = (y' + xs.getD x.toNat 0) % (p : Int) := e.2
    have hv := Gl.get hm x.toNat
    generalize xs.getD x.toNat 0 = z at *
    refine Prod.ext rfl ?_
    show y = y'
    rcases hp with rfl | rfl | rfl | rfl <;> omega
  | row tp xs =>
    have e := Prod.mk.inj h
    have e1 : y = y' := e.2
    subst e1
    have e2 : (x + xs.getD y.toNat 0) % (p : Int) = (x' + xs.getD y.toNat 0) % (p : Int) := e.1
    have hv := Gl.get hm y.toNat
    generalize xs.getD y.toNat 0 = z at *
    refine Prod.ext ?_ rfl
    show x = x'
    rcases hp with rfl | rfl | rfl | rfl <;> omega
theorem actAll_inj {p : Nat} (hp : isP p) : ∀ (ms : List Mv), (∀ m ∈ ms, Good' p m) → ∀ {q r : Int × Int}, Pl p q → Pl p r → actAll p ms q = actAll p ms r → q = r
  | [], _, _, _, _, _, h => h
  | m :: ms, hg, q, r, hq, hr, h => act_inj hp (hg m List.mem_cons_self) hq hr (actAll_inj hp ms (fun m' hm' => hg m' (List.mem_cons_of_mem _ hm')) (act_pl hp hq) (act_pl hp hr) h)
theorem spot_inj {p : Nat} (hp : isP p) {q r : Int × Int} (hq : Pl p q) (hr : Pl p r) (h : spot p q = spot p r) : q = r := by
  obtain ⟨x, y⟩ := q
  obtain ⟨x', y'⟩ := r
  obtain ⟨h1, h2, h3, h4⟩ := hq
  obtain ⟨g1, g2, g3, g4⟩ := hr
  dsimp only at h1 h2 h3 h4 g1 g2 g3 g4
  unfold spot at h
  dsimp only at h
  refine Prod.ext ?_ ?_
  · show x = x'
    rcases hp with rfl | rfl | rfl | rfl <;> omega
  · show y = y'
    rcases hp with rfl | rfl | rfl | rfl <;> omega
theorem spot_rg {p : Nat} (hp : isP p) {q : Int × Int} (hq : Pl p q) : 0 ≤ spot p q ∧ spot p q < ((p * p : Nat) : Int) := by
  obtain ⟨x, y⟩ := q
  obtain ⟨h1, h2, h3, h4⟩ := hq
  dsimp only at h1 h2 h3 h4
  unfold spot
  dsimp only
  rcases hp with rfl | rfl | rfl | rfl <;> omega
/-- unlike ones, as many as there are -/
theorem perm_rng : ∀ (n : Nat) (l : List Int), l.length = n → l.Nodup → (∀ x ∈ l, 0 ≤ x ∧ x < (n : Int)) → l.Perm (rngI n)
  | 0, l, hl, _, _ => by
    rw [List.eq_nil_of_length_eq_zero hl]
    exact List.Perm.refl _
  | n + 1, l, hl, hn, hx => by
    have er : (rngI (n + 1)).Perm ((n : Int) :: rngI n) := by
      unfold rngI
      rw [List.range_succ, List.map_append]
      exact List.perm_append_comm
    by_cases hin : (n : Int) ∈ l
    · have h1 := List.perm_cons_erase hin
      have h2 : (l.erase (n : Int)).Perm (rngI n) := by
        refine perm_rng n _ ?_ (hn.erase _) fun x hxe => ?_
        · rw [List.length_erase_of_mem hin, hl]; rfl
        · have hm := (List.Nodup.mem_erase_iff hn).mp hxe
          have := hx x hm.2
          have := hm.1
          omega
      exact h1.trans ((h2.cons _).trans er.symm)
    · cases l with
      | nil => simp [runD, env0, mSeq, mIfS, mNot, mB, mIsC, mVar, isC, mRet, mC, mTV, mAnd, mOr, mBin, mFld, dEqF, flV, retM, DL.bindM, mNx, mCall, lenM, mCons, mNil, mTup, mIsT, isT, mSet, mAsg, tgTup, tgCons, tgN, tgNil, mk_Ratio_1, mk_Ratio_2, mCallO, lenO, runO, mRetO, mLst, mIf, mUn, dNegI, mIsT2, mNoP, mPart, oListC, mDrop, mNever] at hl
      | cons a t =>
        exfalso
        rw [List.nodup_cons] at hn
        have hb : ∀ x ∈ a :: t, 0 ≤ x ∧ x < (n : Int) := fun x hxm => by
          have := hx x hxm
          have h3 : x ≠ (n : Int) := fun z => hin (z ▸ hxm)
          omega
        have h2 := perm_rng n t (by simpa [runD, env0, mSeq, mIfS, mNot, mB, mIsC, mVar, isC, mRet, mC, mTV, mAnd, mOr, mBin, mFld, dEqF, flV, retM, DL.bindM, mNx, mCall, lenM, mCons, mNil, mTup, mIsT, isT, mSet, mAsg, tgTup, tgCons, tgN, tgNil, mk_Ratio_1, mk_Ratio_2, mCallO, lenO, runO, mRetO, mLst, mIf, mUn, dNegI, mIsT2, mNoP, mPart, oListC, mDrop, mNever] using hl) hn.2 fun x hxt => hb x (List.mem_cons_of_mem _ hxt)
        have ha := hb a List.mem_cons_self
        have : a ∈ rngI n := by
          unfold rngI
          obtain ⟨k, rfl⟩ := Int.eq_ofNat_of_zero_le ha.1
          exact List.mem_map.mpr ⟨k, List.mem_range.mpr (by omega), rfl⟩
        exact hn.1 (h2.mem_iff.mpr this)
theorem rngI_sorted (n : Nat) : (rngI n).Pairwise (· ≤ ·) := by
  unfold rngI
  rw [List.pairwise_map]
  exact List.pairwise_lt_range.imp fun h => by omega
theorem sortI_rng {l : List Int} {n : Nat} (h : l.Perm (rngI n)) : sortI l = rngI n := (sortI_of h.symm (rngI_sorted n)).symm
theorem plF_nodup {p : Nat} (hp : isP p) : (plF p).Nodup := by
  rcases hp with rfl | rfl | rfl | rfl <;> decide +kernel
theorem deal_perm {p : Nat} (hp : isP p) {ms : List Mv} (hg : ∀ m ∈ ms, Good' p m) : (deal p ms).Perm (rngI (p * p)) := by
  refine perm_rng _ _ ?_ ?_ fun x hx => ?_
  · unfold deal
    rw [pl_eq hp]
    unfold plR
    simp [runD, env0, mSeq, mIfS, mNot, mB, mIsC, mVar, isC, mRet, mC, mTV, mAnd, mOr, mBin, mFld, dEqF, flV, retM, DL.bindM, mNx, mCall, lenM, mCons, mNil, mTup, mIsT, isT, mSet, mAsg, tgTup, tgCons, tgN, tgNil, mk_Ratio_1, mk_Ratio_2, mCallO, lenO, runO, mRetO, mLst, mIf, mUn, dNegI, mIsT2, mNoP, mPart, oListC, mDrop, mNever]
  · unfold deal
    refine List.pairwise_map.mpr ((plF_nodup hp).imp_of_mem fun {q r} hq hr hne h => hne ?_)
    exact actAll_inj hp ms hg (plF_pl hq) (plF_pl hr) (spot_inj hp (actAll_pl hp ms (plF_pl hq)) (actAll_pl hp ms (plF_pl hr)) h)
  · unfold deal at hx
    obtain ⟨q, hq, rfl⟩ := List.mem_map.mp hx
    exact spot_rg hp (actAll_pl hp ms (plF_pl hq))
end Q
end

section
set_option Elab.async false
set_option linter.all false
set_option maxRecDepth 100000
set_option maxHeartbeats 4000000
set_option exponentiation.threshold 20000
/-! k42: plays for deals. -/
namespace Q
open DL PySem PyProof.Rows
theorem Nc.items {M n : Nat} {v : D} (h : Nc M n v) {ds : List D} (hi : itemsD v = some ds) : ds.length ≤ M ∧ ∃ k, n = k + 1 ∧ ∀ d ∈ ds, Nc M k d := by
  cases h with
  | flat h => cases h <;> cases hi
  | ed => cases hi
  | rt x h => cases hi
  | lst hl h => cases hi; exact ⟨hl, _, rfl, h⟩
  | tup hl h => cases hi; exact ⟨hl, _, rfl, h⟩
theorem Nc.kd {M n : Nat} {v : D} (h : Nc M n v) (hM : M ≤ 100000) : Kd v := by
  refine ⟨h.nopot, fun ds hi => ?_⟩
  obtain ⟨hl, k, _, hd⟩ := h.items hi
  exact ⟨by omega, fun d hdd => (hd d hdd).nopot⟩
theorem Nc.km {M n : Nat} {v : D} (h : Nc M n v) (hM : M ≤ 100000) : Km v := by
  refine ⟨h.nopot, fun ds hi => ?_⟩
  obtain ⟨hl, k, _, hd⟩ := h.items hi
  exact fun d hdd => (hd d hdd).kd hM
theorem Nc.kp {M n : Nat} {v : D} (h : Nc M n v) (hM : M ≤ 100000) : Kp v := by
  refine ⟨h.nopot, fun ds hi => ?_⟩
  obtain ⟨hl, k, _, hd⟩ := h.items hi
  exact ⟨by omega, fun d hdd => (hd d hdd).km hM⟩
/-- a list of ints is told -/
theorem ints_kd {v : D} {ns : List Int} (h : itemsD v = some (ns.map .int)) (hl : ns.length ≤ 100000) : Kd v := by
  refine ⟨fun z => (by rw [z] at h; cases h), fun ds hi => ?_⟩
  rw [h] at hi
  cases hi
  refine ⟨by rw [List.length_map]; exact hl, fun d hd => ?_⟩
  obtain ⟨i, _, rfl⟩ := List.mem_map.mp hd
  exact fun z => nomatch z
theorem seq_items (tp : Bool) (xs : List Int) : itemsD (seqD tp xs) = some (xs.map .int) := by
  unfold seqD
  cases tp <;> rfl
theorem seqCnt_inv {p : Nat} {x : D} (h : seqCnt p x = true) : ∃ tp xs, x = seqD tp xs ∧ Gl p xs := by
  unfold seqCnt at h
  rcases hi : itemsD x with _ | ds
  · rw [hi] at h; cases h
  · rw [hi] at h
    rw [Bool.and_eq_true, decide_eq_true_eq] at h
    obtain ⟨h1, h2⟩ := h
    obtain ⟨ns, rfl⟩ : ∃ ns : List Int, ds = ns.map D.int := by
      refine intsD_of (List.all_eq_true.mpr fun d hdd => ?_)
      have := List.all_eq_true.mp h2 d hdd
      cases d <;> first | rfl | cases this
    have hG : Gl p ns := by
      refine ⟨by rw [List.length_map] at h1; exact h1, fun i hii => ?_⟩
      have h4 := List.all_eq_true.mp h2 (.int i) (List.mem_map.mpr ⟨i, hii, rfl⟩)
      have h3 : (decide (0 ≤ i) && decide (i ≤ (p : Int) - 1)) = true := h4
      rw [Bool.and_eq_true, decide_eq_true_eq, decide_eq_true_eq] at h3
      exact h3
    rcases items_cases hi with rfl | rfl
    · exact ⟨false, ns, rfl, hG⟩
    · exact ⟨true, ns, rfl, hG⟩
theorem seqCnt_of {p : Nat} {tp : Bool} {xs : List Int} (h : Gl p xs) : seqCnt p (seqD tp xs) = true := by
  unfold seqCnt
  rw [seq_items]
  show (decide ((xs.map D.int).length = p) && (xs.map D.int).all (cntB ((p : Int) - 1))) = true
  rw [List.length_map, decide_eq_true h.1, Bool.true_and]
  refine List.all_eq_true.mpr fun d hd => ?_
  obtain ⟨i, hi, rfl⟩ := List.mem_map.mp hd
  have := h.2 i hi
  show (decide (0 ≤ i) && decide (i ≤ (p : Int) - 1)) = true
  rw [decide_eq_true this.1, decide_eq_true this.2]
  rfl
theorem moveB_inv {p : Nat} {v : D} (h : moveB p v = true) : ∃ m, v = Mv.d m ∧ Good' p m := by
  unfold moveB at h
  split at h
  · rename_i w x
    split at h
    · rename_i hw
      subst hw
      rw [Bool.and_eq_true] at h
      cases x <;> first | (cases h.1; done) | skip
      rename_i i
      have h1 : (decide (0 ≤ i) && decide (i ≤ (p : Int) - 1)) = true := h.1
      have h2 : decide (0 < i) = true := h.2
      rw [Bool.and_eq_true, decide_eq_true_eq, decide_eq_true_eq] at h1
      rw [decide_eq_true_eq] at h2
      exact ⟨.turn i, rfl, by show 1 ≤ i ∧ _; omega⟩
    · rw [Bool.and_eq_true] at h
      obtain ⟨tp, xs, rfl, hG⟩ := seqCnt_inv h.2
      have h1 := h.1
      unfold yxB at h1
      rw [Bool.or_eq_true] at h1
      rcases h1 with h1 | h1
      · have := eq_of_beq h1
        subst this
        exact ⟨.col tp xs, rfl, hG⟩
      · have := eq_of_beq h1
        subst this
        exact ⟨.row tp xs, rfl, hG⟩
  · cases h
theorem moveB_of {p : Nat} {m : Mv} (h : Good' p m) : moveB p m.d = true := by
  cases m with
  | turn c =>
    obtain ⟨h1, h2⟩ := h
    show (if ("turn" : Str) = ("turn" : Str) then cntB ((p : Int) - 1) (.int c) && posB (.int c) else yxB "turn" && seqCnt p (.int c)) = true
    rw [if_pos rfl]
    show ((decide (0 ≤ c) && decide (c ≤ (p : Int) - 1)) && decide (0 < c)) = true
    rw [decide_eq_true (by omega), decide_eq_true (by omega), decide_eq_true (by omega)]
    rfl
  | col tp xs =>
    show (if ("y" : Str) = ("turn" : Str) then cntB ((p : Int) - 1) (seqD tp xs) && posB (seqD tp xs) else yxB "y" && seqCnt p (seqD tp xs)) = true
    rw [if_neg (by decide), seqCnt_of h, show yxB "y" = true by decide]
    rfl
  | row tp xs =>
    show (if ("x" : Str) = ("turn" : Str) then cntB ((p : Int) - 1) (seqD tp xs) && posB (seqD tp xs) else yxB "x" && seqCnt p (seqD tp xs)) = true
    rw [if_neg (by decide), seqCnt_of h, show yxB "x" = true by decide]
    rfl
theorem mvs_inv {p : Nat} : ∀ {ds : List D}, ds.all (moveB p) = true → ∃ ms : List Mv, ds = ms.map Mv.d ∧ ∀ m ∈ ms, Good' p m
  | [], _ => ⟨[], rfl, fun _ h => nomatch h⟩
  | d :: ds, h => by
    rw [List.all_cons, Bool.and_eq_true] at h
    obtain ⟨m, rfl, hm⟩ := moveB_inv h.1
    obtain ⟨ms, rfl, hms⟩ := mvs_inv h.2
    refine ⟨m :: ms, rfl, fun m' hm' => ?_⟩
    rcases List.mem_cons.mp hm' with rfl | hm'
    · exact hm
    · exact hms m' hm'
theorem playB_inv {p : Nat} {v : D} (h : playB p v = true) : ∃ ms : List Mv, itemsD v = some (ms.map Mv.d) ∧ (∀ m ∈ ms, Good' p m) ∧ ms.length ≤ 1500 := by
  unfold playB at h
  rcases hi : itemsD v with _ | ds
  · rw [hi] at h; cases h
  · rw [hi] at h
    rw [Bool.and_eq_true, decide_eq_true_eq] at h
    obtain ⟨ms, rfl, hg⟩ := mvs_inv h.2
    exact ⟨ms, rfl, hg, by have := h.1; rw [List.length_map] at this; exact this⟩
theorem playB_of {p : Nat} {v : D} {ms : List Mv} (hi : itemsD v = some (ms.map Mv.d)) (hg : ∀ m ∈ ms, Good' p m) (hl : ms.length ≤ 1500) : playB p v = true := by
  unfold playB
  rw [hi]
  show (decide ((ms.map Mv.d).length ≤ 1500) && (ms.map Mv.d).all (moveB p)) = true
  rw [List.length_map, decide_eq_true hl, Bool.true_and]
  refine List.all_eq_true.mpr fun d hd => ?_
  obtain ⟨m, hm, rfl⟩ := List.mem_map.mp hd
  exact moveB_of (hg m hm)
theorem Good'.km {p : Nat} {m : Mv} (h : Good' p m) (hp : p ≤ 11) : Km m.d := by
  refine ⟨by cases m <;> exact (fun z => nomatch z), fun ds hi d hd => ?_⟩
  cases m with
  | turn c =>
    cases hi
    simp only [List.mem_cons, List.not_mem_nil, or_false] at hd
    rcases hd with rfl | rfl
    · exact ⟨(fun z => nomatch z), (fun _ z => nomatch z)⟩
    · exact ⟨(fun z => nomatch z), (fun _ z => nomatch z)⟩
  | col tp xs =>
    cases hi
    simp only [List.mem_cons, List.not_mem_nil, or_false] at hd
    rcases hd with rfl | rfl
    · exact ⟨(fun z => nomatch z), (fun _ z => nomatch z)⟩
    · exact ints_kd (seq_items tp xs) (by have := h.1; omega)
  | row tp xs =>
    cases hi
    simp only [List.mem_cons, List.not_mem_nil, or_false] at hd
    rcases hd with rfl | rfl
    · exact ⟨(fun z => nomatch z), (fun _ z => nomatch z)⟩
    · exact ints_kd (seq_items tp xs) (by have := h.1; omega)
theorem kp_of {p : Nat} (hp : p ≤ 11) {v : D} {ms : List Mv} (hi : itemsD v = some (ms.map Mv.d)) (hg : ∀ m ∈ ms, Good' p m) (hl : ms.length ≤ 100000) : Kp v := by
  refine ⟨fun z => (by rw [z] at hi; cases hi), fun ds hi' => ?_⟩
  rw [hi] at hi'
  cases hi'
  refine ⟨by rw [List.length_map]; exact hl, fun d hd => ?_⟩
  obtain ⟨m, hm, rfl⟩ := List.mem_map.mp hd
  exact (hg m hm).km hp
theorem playdeal_eq {p : Nat} (hp : isP p) {v : D} {ms : List Mv} (hi : itemsD v = some (ms.map Mv.d)) (hg : ∀ m ∈ ms, Good' p m) (hl : ms.length ≤ 1500) : d_play_deal [.int p, v] = retM (.lst ((deal p ms).map .int)) := by
  have h1 := want_prime_eq hp
  have h2 := wantplay_eq (kp_of hp.le hi hg (by omega)) (playB_of hi hg hl)
  have h3 := dealby_eq hp hi hg
  funext q
  simp [runD, env0, mSeq, mIfS, mNot, mB, mIsC, mVar, isC, mRet, mC, mTV, mAnd, mOr, mBin, mFld, dEqF, flV, retM, DL.bindM, mNx, mCall, lenM, mCons, mNil, mTup, mIsT, isT, mSet, mAsg, tgTup, tgCons, tgN, tgNil, mk_Ratio_1, mk_Ratio_2, mCallO, lenO, runO, mRetO, mLst, mIf, mUn, dNegI, mIsT2, mNoP, mPart, oListC, mDrop, mNever, d_play_deal, m_play_deal, h1, h2, h3]
/-- what is_play_for answers -/
theorem playfor_no {p : Nat} (hp : isP p) {dl v : D} {ns : List Int} (hd : itemsD dl = some (ns.map .int)) (hs : sortI ns = rngI (p * p)) (hv : Kp v) (hb : playB p v = false) : d_is_play_for [.int p, dl, v] = retM (.bl false) := by
  have h1 := want_prime_eq hp
  have hsq := sq_le hp.le
  have h2 := wantdeal_eq hp.le (ints_kd hd (by rw [deal_len hs]; omega)) hd hs
  have h3 := play_prog (p := p) hv
  rw [hb] at h3
  funext q
  simp [runD, env0, mSeq, mIfS, mNot, mB, mIsC, mVar, isC, mRet, mC, mTV, mAnd, mOr, mBin, mFld, dEqF, flV, retM, DL.bindM, mNx, mCall, lenM, mCons, mNil, mTup, mIsT, isT, mSet, mAsg, tgTup, tgCons, tgN, tgNil, mk_Ratio_1, mk_Ratio_2, mCallO, lenO, runO, mRetO, mLst, mIf, mUn, dNegI, mIsT2, mNoP, mPart, oListC, mDrop, mNever, d_is_play_for, m_is_play_for, h1, h2, h3]
theorem playfor_yes {p : Nat} (hp : isP p) {dl v : D} {ns : List Int} (hd : itemsD dl = some (ns.map .int)) (hs : sortI ns = rngI (p * p)) {ms : List Mv} (hi : itemsD v = some (ms.map Mv.d)) (hg : ∀ m ∈ ms, Good' p m) (hl : ms.length ≤ 1500) : d_is_play_for [.int p, dl, v] = retM (.bl (decide (deal p ms = ns))) := by
  have h1 := want_prime_eq hp
  have hsq := sq_le hp.le
  have h2 := wantdeal_eq hp.le (ints_kd hd (by rw [deal_len hs]; omega)) hd hs
  have h3 := play_prog (p := p) (kp_of hp.le hi hg (by omega))
  rw [playB_of hi hg hl] at h3
  have h4 := dealby_eq hp hi hg
  have h5 := eq_ints false (deal p ms) ns
  rw [show (decide (deal p ms = ns) != false) = decide (deal p ms = ns) by cases decide (deal p ms = ns) <;> rfl] at h5
  generalize deal p ms = dm at *
  generalize decide (dm = ns) = db at *
  funext q
  simp [runD, env0, mSeq, mIfS, mNot, mB, mIsC, mVar, isC, mRet, mC, mTV, mAnd, mOr, mBin, mFld, dEqF, flV, retM, DL.bindM, mNx, mCall, lenM, mCons, mNil, mTup, mIsT, isT, mSet, mAsg, tgTup, tgCons, tgN, tgNil, mk_Ratio_1, mk_Ratio_2, mCallO, lenO, runO, mRetO, mLst, mIf, mUn, dNegI, mIsT2, mNoP, mPart, oListC, mDrop, mNever, d_is_play_for, m_is_play_for, h1, h2, h3, h4, h5]
end Q
end

section
set_option Elab.async false
set_option linter.all false
set_option maxRecDepth 100000
set_option maxHeartbeats 4000000
set_option exponentiation.threshold 20000
/-! k42: what the law draws. -/
namespace Q
open DL PySem PyProof.Rows
structure Good (p : Pt) : Prop where
  a : 0 ≤ p.1
  b : 0 ≤ p.2
  c : p.2 < 2147483648
theorem big32 : 4294967296 * 4294967296 < bigN := by unfold bigN; decide +kernel
theorem law_draw {p : Pt} (hp : Good p) {many : Int} (h1 : 0 < many) (h2 : many < 4294967296) : ∃ r p', d__law_draw [.pot, .int many] p = some (.int r, p') ∧ 0 ≤ r ∧ r < many ∧ Good p' := by
  obtain ⟨a, b⟩ := p
  obtain ⟨ha, hb, hc⟩ := hp
  simp only at ha hb hc
  by_cases hz : 0 < a
  · refine ⟨a % many, (a / many, b), ?_, Int.emod_nonneg _ (by omega), Int.emod_lt_of_pos _ h1, ⟨Int.ediv_nonneg (by omega) (by omega), hb, hc⟩⟩
    have hm : 0 < many ∧ many < 18446744073709551616 := by omega
    simp [runD, env0, mSeq, mIfS, mNot, mB, mIsC, mVar, isC, mRet, mC, mTV, mAnd, mOr, mBin, mFld, dEqF, flV, retM, DL.bindM, mNx, mCall, lenM, mCons, mNil, mTup, mIsT, isT, mSet, mAsg, tgTup, tgCons, tgN, tgNil, mk_Ratio_1, mk_Ratio_2, mCallO, lenO, runO, mRetO, mLst, mIf, mUn, dNegI, mIsT2, mNoP, mPart, oListC, mDrop, mNever, d__law_draw, m__law_draw, mPot, mPotDiv, dGt, dII, hz, cDivmod, hm]
  · obtain ⟨b1, hb1⟩ : ∃ b1, b1 = (b * 40692 + 1987) % 2147483587 := ⟨_, rfl⟩
    have g1 : 0 ≤ b1 := by rw [hb1]; exact Int.emod_nonneg _ (by decide)
    have g2 : b1 < 2147483587 := by rw [hb1]; exact Int.emod_lt_of_pos _ (by decide)
    have hbig := big32
    have hz1 : b.natAbs < bigN := by omega
    have hz2 : 40692 < bigN := by omega
    have hz3 : b1.natAbs < bigN := by omega
    have hz4 : 19 < bigN := by omega
    refine ⟨(b1 * b1 % 2147483629).fdiv 19 % many, (a, b1), ?_, Int.emod_nonneg _ (by omega), Int.emod_lt_of_pos _ h1, ⟨ha, g1, by show b1 < _; omega⟩⟩
    simp [runD, env0, mSeq, mIfS, mNot, mB, mIsC, mVar, isC, mRet, mC, mTV, mAnd, mOr, mBin, mFld, dEqF, flV, retM, DL.bindM, mNx, mCall, lenM, mCons, mNil, mTup, mIsT, isT, mSet, mAsg, tgTup, tgCons, tgN, tgNil, mk_Ratio_1, mk_Ratio_2, mCallO, lenO, runO, mRetO, mLst, mIf, mUn, dNegI, mIsT2, mNoP, mPart, oListC, mDrop, mNever, d__law_draw, m__law_draw, mPot, mSetPot, dGt, dII, hz, dMulI, dAddI, dModI, dDivI, cInt, hz1, hz2, hz3, hz4, ← hb1, h1]
theorem at_lst {ds : List D} {i : Nat} {d : D} (h : ds[i]? = some d) : atD (.lst ds) (.int (i : Nat)) = retM d := by
  have hi : i < ds.length := (List.getElem?_eq_some_iff.mp h).1
  have e : L2.atI ds (i : Int) = some d := by
    unfold L2.atI L2.ixN
    rw [if_pos (by omega), if_pos (by omega)]
    show ds[((i : Int)).toNat]? = _
    rw [Int.toNat_natCast]
    exact h
  unfold atD
  dsimp only
  rw [e]
theorem law_pick {p : Pt} (hp : Good p) {ds : List D} (h1 : 0 < ds.length) (h2 : ds.length < 4294967296) : ∃ d p', d ∈ ds ∧ d__law_pick [.pot, .lst ds] p = some (d, p') ∧ Good p' := by
  obtain ⟨r, p', e, hr1, hr2, g⟩ := law_draw hp (many := (ds.length : Nat)) (by omega) (by omega)
  obtain ⟨i, rfl⟩ := Int.eq_ofNat_of_zero_le hr1
  have hi : i < ds.length := by omega
  refine ⟨ds[i], p', List.getElem_mem hi, ?_, g⟩
  have hat := at_lst (ds := ds) (i := i) (d := ds[i]) (List.getElem?_eq_getElem hi)
  simp [runD, env0, mSeq, mIfS, mNot, mB, mIsC, mVar, isC, mRet, mC, mTV, mAnd, mOr, mBin, mFld, dEqF, flV, retM, DL.bindM, mNx, mCall, lenM, mCons, mNil, mTup, mIsT, isT, mSet, mAsg, tgTup, tgCons, tgN, tgNil, mk_Ratio_1, mk_Ratio_2, mCallO, lenO, runO, mRetO, mLst, mIf, mUn, dNegI, mIsT2, mNoP, mPart, oListC, mDrop, mNever, d__law_pick, m__law_pick, cLen, e, hat]
/-- item by item -/
inductive All2 {α : Type} (Q : D → α → Prop) : List D → List α → Prop where
  | nil : All2 Q [] []
  | cons {d : D} {a : α} {ds : List D} {l : List α} (h : Q d a) (r : All2 Q ds l) : All2 Q (d :: ds) (a :: l)
theorem comp_st {α : Type} {Q : D → α → Prop} {i : Nat} {e : Env' → Mo D} {env : Env'} {F : α → D} : ∀ (l : List α), (∀ a ∈ l, ∀ p, Good p → ∃ d p', e (env.set i (.val (F a))) p = some (d, p') ∧ Q d a ∧ Good p') → ∀ p, Good p → ∃ ds p', compM (tgN i) mYes e env (l.map F) p = some (ds, p') ∧ All2 Q ds l ∧ Good p'
  | [], _, p, hp => ⟨[], p, rfl, .nil, hp⟩
  | a :: l, h, p, hp => by
    obtain ⟨d, p1, e1, q1, g1⟩ := h a List.mem_cons_self p hp
    obtain ⟨ds, p2, e2, q2, g2⟩ := comp_st l (fun b hb => h b (List.mem_cons_of_mem _ hb)) p1 g1
    refine ⟨d :: ds, p2, ?_, .cons q1 q2, g2⟩
    rw [List.map_cons]
    conv => lhs; unfold compM
    simp [runD, env0, mSeq, mIfS, mNot, mB, mIsC, mVar, isC, mRet, mC, mTV, mAnd, mOr, mBin, mFld, dEqF, flV, retM, DL.bindM, mNx, mCall, lenM, mCons, mNil, mTup, mIsT, isT, mSet, mAsg, tgTup, tgCons, tgN, tgNil, mk_Ratio_1, mk_Ratio_2, mCallO, lenO, runO, mRetO, mLst, mIf, mUn, dNegI, mIsT2, mNoP, mPart, oListC, mDrop, mNever, mYes, e1, e2]
theorem All2.len {α : Type} {Q : D → α → Prop} {ds : List D} {l : List α} (h : All2 Q ds l) : ds.length = l.length := by
  induction h with
  | nil => rfl
  | cons h _ ih => rw [List.length_cons, List.length_cons, ih]
theorem All2.all {α : Type} {Q : D → Prop} {ds : List D} {l : List α} (h : All2 (fun d _ => Q d) ds l) : ∀ d ∈ ds, Q d := by
  induction h with
  | nil => exact fun _ z => nomatch z
  | cons h _ ih =>
    intro d hd
    rcases List.mem_cons.mp hd with rfl | hd
    · exact h
    · exact ih d hd
/-- so many drawn ones -/
theorem comp_n {Q : D → Prop} {i : Nat} {e : Env' → Mo D} {env : Env'} (n : Nat) (h : ∀ d p, Good p → ∃ y p', e (env.set i (.val d)) p = some (y, p') ∧ Q y ∧ Good p') {p : Pt} (hp : Good p) : ∃ ds p', compM (tgN i) mYes e env (rngD 0 n) p = some (ds, p') ∧ (∀ d ∈ ds, Q d) ∧ ds.length = n ∧ Good p' := by
  obtain ⟨ds, p', e1, q, g⟩ := comp_st (Q := fun d (_ : Nat) => Q d) (i := i) (e := e) (env := env) (F := fun j : Nat => .int (0 + (j : Nat))) (List.range n) (fun a _ p hp => h _ p hp) p hp
  exact ⟨ds, p', e1, q.all, by rw [q.len, List.length_range], g⟩
theorem rngD_len (n : Nat) : (rngD 0 n).length = n := by unfold rngD; simp [runD, env0, mSeq, mIfS, mNot, mB, mIsC, mVar, isC, mRet, mC, mTV, mAnd, mOr, mBin, mFld, dEqF, flV, retM, DL.bindM, mNx, mCall, lenM, mCons, mNil, mTup, mIsT, isT, mSet, mAsg, tgTup, tgCons, tgN, tgNil, mk_Ratio_1, mk_Ratio_2, mCallO, lenO, runO, mRetO, mLst, mIf, mUn, dNegI, mIsT2, mNoP, mPart, oListC, mDrop, mNever]
def mxBody : MS := mAppPop 3 2 (mCall (lenM 2 d__law_draw) (mCons (mVar 0) (mCons (mLen (mVarB 2)) mNil)))
theorem ixN_nat {n i : Nat} (h : i < n) : L2.ixN n (i : Int) = some i := by
  unfold L2.ixN
  rw [if_pos (by omega), if_pos (by omega), Int.toNat_natCast]
theorem mixed_loop (S : D) : ∀ (xs ls acc : List D) (v4 : SV) (p : Pt), Good p → ls.length = xs.length → acc.length + ls.length ≤ 1000 → ∃ es w p', loopM (mTg (tgN 4) mxBody) xs [.val .pot, .val S, .own ls, .own acc, v4] p = some ((.nx, [.val .pot, .val S, .own [], .own (acc ++ es), w]), p') ∧ es.length = ls.length ∧ (∀ e ∈ es, e ∈ ls) ∧ Good p'
  | [], ls, acc, v4, p, hp, hl, _ => by
    rw [List.length_nil] at hl
    cases List.eq_nil_of_length_eq_zero hl
    exact ⟨[], v4, p, by rw [List.append_nil]; rfl, rfl, (fun _ h => nomatch h), hp⟩
  | x :: xs, ls, acc, v4, p, hp, hl, hz => by
    rw [List.length_cons] at hl
    obtain ⟨r, p1, e1, r1, r2, g1⟩ := law_draw hp (many := (ls.length : Nat)) (by omega) (by omega)
    obtain ⟨i, rfl⟩ := Int.eq_ofNat_of_zero_le r1
    have hi : i < ls.length := by omega
    have hle : (ls.eraseIdx i).length = ls.length - 1 := List.length_eraseIdx_of_lt hi
    obtain ⟨es, w, p2, e2, l2, m2, g2⟩ := mixed_loop S xs (ls.eraseIdx i) (acc ++ [ls[i]]) (.val x) p1 g1 (by omega) (by rw [List.length_append, List.length_singleton]; omega)
    refine ⟨ls[i] :: es, w, p2, ?_, by rw [List.length_cons]; omega, fun e he => ?_, g2⟩
    · rw [List.append_assoc] at e2
      have hg : ls[i]? = some ls[i] := List.getElem?_eq_getElem hi
      have hx := ixN_nat hi
      have hz1 : acc.length ≤ 100000 := by omega
      have hz2 : ls.length ≤ 100000 := by omega
      have es' : [ls[i]] ++ es = ls[i] :: es := rfl
      rw [es'] at e2
      rw [← e2]
      generalize ls[i] = y at *
      conv => lhs; unfold loopM
      simp [runD, env0, mSeq, mIfS, mNot, mB, mIsC, mVar, isC, mRet, mC, mTV, mAnd, mOr, mBin, mFld, dEqF, flV, retM, DL.bindM, mNx, mCall, lenM, mCons, mNil, mTup, mIsT, isT, mSet, mAsg, tgTup, tgCons, tgN, tgNil, mk_Ratio_1, mk_Ratio_2, mCallO, lenO, runO, mRetO, mLst, mIf, mUn, dNegI, mIsT2, mNoP, mPart, oListC, mDrop, mNever, mTg, mxBody, mLen, mVarB, cLen, e1, mAppPop, hx, hg, hz1, hz2]
    · rcases List.mem_cons.mp he with rfl | he
      · exact List.getElem_mem hi
      · exact List.mem_of_mem_eraseIdx (m2 e he)
theorem law_mixed {p : Pt} (hp : Good p) {ds : List D} (hl : ds.length ≤ 1000) : ∃ es p', o__law_mixed [.pot, .lst ds] p = some (es, p') ∧ es.length = ds.length ∧ (∀ e ∈ es, e ∈ ds) ∧ Good p' := by
  obtain ⟨es, w, p', e, l, m, g⟩ := mixed_loop (.lst ds) (rngD 0 ds.length) ds [] .un p hp (by rw [rngD_len]) (by rw [List.length_nil]; omega)
  rw [List.nil_append] at e
  have hm : m__law_mixed = mSeq (mParOO 2 3 (mCallO oListC (mCons (mVar 1) mNil)) (mNew mNil)) (mSeq (mFor (srcR1 (mCons (mCall cLen (mCons (mVar 1) mNil)) mNil)) (tgN 4) mxBody) (mRetX 3)) := rfl
  have h1 : (-1000000 : Int) ≤ (ds.length : Int) := by omega
  have h2 : (ds.length : Int) ≤ 1000000 := by omega
  have h3 : oListC [.lst ds] = retM ds := rfl
  unfold oListC at h3
  refine ⟨es, p', ?_, l, m, g⟩
  generalize mxBody = body at *
  simp [runD, env0, mSeq, mIfS, mNot, mB, mIsC, mVar, isC, mRet, mC, mTV, mAnd, mOr, mBin, mFld, dEqF, flV, retM, DL.bindM, mNx, mCall, lenM, mCons, mNil, mTup, mIsT, isT, mSet, mAsg, tgTup, tgCons, tgN, tgNil, mk_Ratio_1, mk_Ratio_2, mCallO, lenO, runO, mRetO, mLst, mIf, mUn, dNegI, mIsT2, mNoP, mPart, oListC, mDrop, mNever, o__law_mixed, hm, mParOO, h3, mNew, mFor, srcR1, cLen, h1, h2, e, mRetX]
def mvDraw : Env' → Mo D := mCall (lenM 2 d__law_draw) (mCons (mVar 0) (mCons (mVar 1) mNil))
theorem draw_ints {p : Pt} (hp : Good p) {n : Nat} (hn : 0 < n ∧ n ≤ 11) (k : Nat) (env : Env') (i : Nat) (h0 : ∀ d, (env.set i (.val d))[0]? = some (.val .pot)) (h1 : ∀ d, (env.set i (.val d))[1]? = some (.val (.int (n : Nat)))) : ∃ (xs : List Int) (p' : Pt), compM (tgN i) mYes mvDraw env (rngD 0 k) p = some (xs.map .int, p') ∧ xs.length = k ∧ (∀ x ∈ xs, 0 ≤ x ∧ x ≤ (n : Int) - 1) ∧ Good p' := by
  obtain ⟨ds, p', e, q, l, g⟩ := comp_n (Q := fun d => ∃ x : Int, d = .int x ∧ 0 ≤ x ∧ x ≤ (n : Int) - 1) (i := i) (e := mvDraw) (env := env) k (fun d p hp => by
    obtain ⟨r, p1, e1, r1, r2, g1⟩ := law_draw hp (many := (n : Nat)) (by omega) (by omega)
    have a0 := h0 d
    have a1 := h1 d
    generalize env.set i (.val d) = env' at *
    exact ⟨.int r, p1, by simp [runD, env0, mSeq, mIfS, mNot, mB, mIsC, mVar, isC, mRet, mC, mTV, mAnd, mOr, mBin, mFld, dEqF, flV, retM, DL.bindM, mNx, mCall, lenM, mCons, mNil, mTup, mIsT, isT, mSet, mAsg, tgTup, tgCons, tgN, tgNil, mk_Ratio_1, mk_Ratio_2, mCallO, lenO, runO, mRetO, mLst, mIf, mUn, dNegI, mIsT2, mNoP, mPart, oListC, mDrop, mNever, mvDraw, a0, a1, e1], ⟨r, rfl, r1, by omega⟩, g1⟩) hp
  have key : ∀ {ds : List D}, (∀ d ∈ ds, ∃ x : Int, d = .int x ∧ 0 ≤ x ∧ x ≤ (n : Int) - 1) → ∃ xs : List Int, ds = xs.map .int ∧ ∀ x ∈ xs, 0 ≤ x ∧ x ≤ (n : Int) - 1 := by
    intro ds
    induction ds with
    | nil => exact fun _ => ⟨[], rfl, fun _ h => nomatch h⟩
    | cons d ds ih =>
      intro h
      obtain ⟨x, rfl, hx⟩ := h d List.mem_cons_self
      obtain ⟨xs, rfl, hxs⟩ := ih fun d hd => h d (List.mem_cons_of_mem _ hd)
      refine ⟨x :: xs, rfl, fun y hy => ?_⟩
      rcases List.mem_cons.mp hy with rfl | hy
      · exact hx
      · exact hxs y hy
  obtain ⟨xs, rfl, hx⟩ := key q
  rw [List.length_map] at l
  exact ⟨xs, p', e, l, hx, g⟩
theorem law_move {n : Nat} (hn : isP n) {p : Pt} (hp : Good p) : ∃ m p', d__law_move [.pot, .int (n : Nat)] p = some (Mv.d m, p') ∧ Good' n m ∧ Good p' := by
  have hle := hn.le
  have hpos := hn.pos
  obtain ⟨d, p1, hd, e1, g1⟩ := law_pick hp (ds := [.str "x", .str "y", .str "x", .str "y", .str "turn"]) (by decide) (by decide)
  have hm : m__law_move = mSeq (mSet 2 (mCall (lenM 2 d__law_pick) (mCons (mVar 0) (mCons (mLst (mNew (mCons (mC (.str "x")) (mCons (mC (.str "y")) (mCons (mC (.str "x")) (mCons (mC (.str "y")) (mCons (mC (.str "turn")) mNil))))))) mNil)))) (mSeq (mIfS (mB (mBin (dEqF false) (mVar 2) (mC (.str "turn")))) (mRet (mTup (mCons (mVar 2) (mCons (mBin dAddI (mC (.int 1)) (mCall (lenM 2 d__law_draw) (mCons (mVar 0) (mCons (mBin dSubI (mVar 1) (mC (.int 1))) mNil)))) mNil)))) mNx) (mSeq (mSetO 3 (mLc (srcR1 (mCons (mVar 1) mNil)) [4] (tgN 4) mYes mvDraw)) (mFrz 3 (mRet (mTup (mCons (mVar 2) (mCons (mIf (mB (mBin (dEqF false) (mCall (lenM 2 d__law_draw) (mCons (mVar 0) (mCons (mC (.int 2)) mNil))) (mC (.int 0)))) (mVar 3) (mCall cTup (mCons (mVar 3) mNil))) mNil))))))) := rfl
  have t1 := turn_y
  have t2 := turn_n1
  have t3 := turn_n2
  have hz : ∀ r : Int, dEqF false (.int r) (.int 0) = retM (.bl (decide (r = 0))) := fun r => by
    unfold dEqF
    simp [runD, env0, mSeq, mIfS, mNot, mB, mIsC, mVar, isC, mRet, mC, mTV, mAnd, mOr, mBin, mFld, dEqF, flV, retM, DL.bindM, mNx, mCall, lenM, mCons, mNil, mTup, mIsT, isT, mSet, mAsg, tgTup, tgCons, tgN, tgNil, mk_Ratio_1, mk_Ratio_2, mCallO, lenO, runO, mRetO, mLst, mIf, mUn, dNegI, mIsT2, mNoP, mPart, oListC, mDrop, mNever, flV, L2.scal]
  have hdd : d = .str "x" ∨ d = .str "y" ∨ d = .str "turn" := by
    simp only [List.mem_cons, List.not_mem_nil, or_false] at hd
    rcases hd with rfl | rfl | rfl | rfl | rfl
    · exact .inl rfl
    · exact .inr (.inl rfl)
    · exact .inl rfl
    · exact .inr (.inl rfl)
    · exact .inr (.inr rfl)
  have rest : ∀ w : Str, dEqF false (.str w) (.str "turn") = retM (.bl false) → d = .str w → ∃ (tp : Bool) (xs : List Int) (p' : Pt), d__law_move [.pot, .int (n : Nat)] p = some (.tup [.str w, seqD tp xs], p') ∧ Gl n xs ∧ Good p' := by
    intro w hw hdw
    subst hdw
    obtain ⟨xs, p2, e2, l2, q2, g2⟩ := draw_ints g1 (n := n) (by omega) n [.val .pot, .val (.int (n : Nat)), .val (.str w), .un, .un] 4 (fun _ => rfl) (fun _ => rfl)
    obtain ⟨r, p3, e3, r1, r2, g3⟩ := law_draw g2 (many := 2) (by omega) (by omega)
    have b1 : (-1000000 : Int) ≤ (n : Int) := by omega
    have b2 : (n : Int) ≤ 1000000 := by omega
    have b3 : (rngD 0 n).length ≤ 100000 := by rw [rngD_len]; omega
    have hzr := hz r
    by_cases hr : r = 0
    · rw [decide_eq_true hr] at hzr
      refine ⟨false, xs, p3, ?_, ⟨l2, q2⟩, g3⟩
      unfold seqD
      generalize dEqF = eqf at *
      generalize mvDraw = md at *
      simp [runD, env0, mSeq, mIfS, mNot, mB, mIsC, mVar, isC, mRet, mC, mTV, mAnd, mOr, mBin, mFld, dEqF, flV, retM, DL.bindM, mNx, mCall, lenM, mCons, mNil, mTup, mIsT, isT, mSet, mAsg, tgTup, tgCons, tgN, tgNil, mk_Ratio_1, mk_Ratio_2, mCallO, lenO, runO, mRetO, mLst, mIf, mUn, dNegI, mIsT2, mNoP, mPart, oListC, mDrop, mNever, d__law_move, hm, mNew, e1, hw, mSetO, mLc, srcR1, b1, b2, b3, wipeE, e2, mFrz, e3, hzr]
    · rw [decide_eq_false hr] at hzr
      refine ⟨true, xs, p3, ?_, ⟨l2, q2⟩, g3⟩
      unfold seqD
      generalize dEqF = eqf at *
      generalize mvDraw = md at *
      simp [runD, env0, mSeq, mIfS, mNot, mB, mIsC, mVar, isC, mRet, mC, mTV, mAnd, mOr, mBin, mFld, dEqF, flV, retM, DL.bindM, mNx, mCall, lenM, mCons, mNil, mTup, mIsT, isT, mSet, mAsg, tgTup, tgCons, tgN, tgNil, mk_Ratio_1, mk_Ratio_2, mCallO, lenO, runO, mRetO, mLst, mIf, mUn, dNegI, mIsT2, mNoP, mPart, oListC, mDrop, mNever, d__law_move, hm, mNew, e1, hw, mSetO, mLc, srcR1, b1, b2, b3, wipeE, e2, mFrz, e3, hzr, cTup]
  rcases hdd with h | h | h
  · obtain ⟨tp, xs, p', e, hG, g⟩ := rest "x" t3 h
    exact ⟨.row tp xs, p', e, hG, g⟩
  · obtain ⟨tp, xs, p', e, hG, g⟩ := rest "y" t2 h
    exact ⟨.col tp xs, p', e, hG, g⟩
  · subst h
    obtain ⟨r, p2, e2, r1, r2, g2⟩ := law_draw g1 (many := (n : Int) - 1) (by omega) (by omega)
    refine ⟨.turn (1 + r), p2, ?_, by show 1 ≤ 1 + r ∧ 1 + r ≤ _; omega, g2⟩
    show _ = some (D.tup [.str "turn", .int (1 + r)], p2)
    generalize dEqF = eqf at *
    generalize mvDraw = md at *
    simp [runD, env0, mSeq, mIfS, mNot, mB, mIsC, mVar, isC, mRet, mC, mTV, mAnd, mOr, mBin, mFld, dEqF, flV, retM, DL.bindM, mNx, mCall, lenM, mCons, mNil, mTup, mIsT, isT, mSet, mAsg, tgTup, tgCons, tgN, tgNil, mk_Ratio_1, mk_Ratio_2, mCallO, lenO, runO, mRetO, mLst, mIf, mUn, dNegI, mIsT2, mNoP, mPart, oListC, mDrop, mNever, d__law_move, hm, mNew, e1, t1, dSubI, dAddI, dII, e2]
end Q
end

section
set_option Elab.async false
set_option linter.all false
set_option maxRecDepth 100000
set_option maxHeartbeats 4000000
set_option exponentiation.threshold 20000
/-! k42: what is reckoned, step by step. -/
namespace Q
open DL PySem PyProof.Rows
def Ev (m : Env' → Mo D) (env : Env') (Q : D → Prop) : Prop := ∃ d, m env = retM d ∧ Q d
def EvL (o : Env' → Mo (List D)) (env : Env') (Q : D → Prop) (k : Nat) : Prop := ∃ ds, o env = retM ds ∧ (∀ d ∈ ds, Q d) ∧ ds.length ≤ k
def EvD (m : Env' → Mo D) (env : Env') (Q : D → Prop) (k : Nat) : Prop := ∃ ds, m env = retM (.lst ds) ∧ (∀ d ∈ ds, Q d) ∧ ds.length ≤ k
def EvP (o : Env' → Mo (Option Int)) (env : Env') : Prop := ∃ v, o env = retM v
theorem Ev.imp {m : Env' → Mo D} {env : Env'} {Q Q' : D → Prop} (h : Ev m env Q) (hq : ∀ d, Q d → Q' d) : Ev m env Q' := by
  obtain ⟨d, e, q⟩ := h
  exact ⟨d, e, hq d q⟩
theorem EvL.imp {o : Env' → Mo (List D)} {env : Env'} {Q Q' : D → Prop} {k k' : Nat} (h : EvL o env Q k) (hq : ∀ d, Q d → Q' d) (hk : k ≤ k') : EvL o env Q' k' := by
  obtain ⟨d, e, q, l⟩ := h
  exact ⟨d, e, fun x hx => hq x (q x hx), Nat.le_trans l hk⟩
theorem EvD.imp {o : Env' → Mo D} {env : Env'} {Q Q' : D → Prop} {k k' : Nat} (h : EvD o env Q k) (hq : ∀ d, Q d → Q' d) (hk : k ≤ k') : EvD o env Q' k' := by
  obtain ⟨d, e, q, l⟩ := h
  exact ⟨d, e, fun x hx => hq x (q x hx), Nat.le_trans l hk⟩
section
variable {env : Env'} {Q : D → Prop} {M n k l : Nat}
theorem ev_c {d : D} (h : Q d) : Ev (mC d) env Q := ⟨d, rfl, h⟩
theorem ev_var {i : Nat} {d : D} (hv : env[i]? = some (.val d)) (h : Q d) : Ev (mVar i) env Q := by
  refine ⟨d, ?_, h⟩
  unfold mVar
  rw [hv]
theorem evd_var {i : Nat} {ds : List D} (hv : env[i]? = some (.val (.lst ds))) (h : ∀ d ∈ ds, Q d) (hl : ds.length ≤ k) : EvD (mVar i) env Q k := by
  refine ⟨ds, ?_, h, hl⟩
  unfold mVar
  rw [hv]
theorem evd_varB {i : Nat} {ds : List D} (hv : env[i]? = some (.val (.lst ds))) (h : ∀ d ∈ ds, Q d) (hl : ds.length ≤ k) : EvD (mVarB i) env Q k := by
  refine ⟨ds, ?_, h, hl⟩
  unfold mVarB
  rw [hv]
theorem evl_nil : EvL mNil env Q 0 := ⟨[], rfl, (fun _ h => nomatch h), Nat.le_refl _⟩
theorem evl_cons {a : Env' → Mo D} {m : Env' → Mo (List D)} (ha : Ev a env Q) (hm : EvL m env Q k) : EvL (mCons a m) env Q (k + 1) := by
  obtain ⟨d, e1, q1⟩ := ha
  obtain ⟨ds, e2, q2, l2⟩ := hm
  refine ⟨d :: ds, ?_, fun x hx => ?_, by rw [List.length_cons]; omega⟩
  · unfold mCons
    rw [e1, bindM_ret, e2, bindM_ret]
  · rcases List.mem_cons.mp hx with rfl | hx
    · exact q1
    · exact q2 x hx
theorem evl_new {m : Env' → Mo (List D)} (h : EvL m env Q k) (hk : k ≤ 100000) : EvL (mNew m) env Q k := by
  obtain ⟨ds, e, q, l⟩ := h
  refine ⟨ds, ?_, q, l⟩
  unfold mNew
  rw [e, bindM_ret, if_pos (by omega)]
theorem evd_lst {o : Env' → Mo (List D)} (h : EvL o env Q k) : EvD (mLst o) env Q k := by
  obtain ⟨ds, e, q, l⟩ := h
  refine ⟨ds, ?_, q, l⟩
  unfold mLst
  rw [e, bindM_ret]
theorem ev_nc {m : Env' → Mo D} (h : EvD m env (Nc M n) k) (hk : k ≤ M) : Ev m env (Nc M (n + 1)) := by
  obtain ⟨ds, e, q, l⟩ := h
  exact ⟨.lst ds, e, .lst (by omega) q⟩
theorem ev_tup {m : Env' → Mo (List D)} (h : EvL m env (Nc M n) k) (hk : k ≤ M) (hM : k ≤ 100000) : Ev (mTup m) env (Nc M (n + 1)) := by
  obtain ⟨ds, e, q, l⟩ := h
  refine ⟨.tup ds, ?_, .tup (by omega) q⟩
  unfold mTup
  rw [e, bindM_ret, if_pos (by omega)]
theorem ev_ctup {m : Env' → Mo D} (h : EvD m env (Nc M n) k) (hk : k ≤ M) : Ev (mCall cTup (mCons m mNil)) env (Nc M (n + 1)) := by
  obtain ⟨ds, e, q, l⟩ := h
  refine ⟨.tup ds, ?_, .tup (by omega) q⟩
  funext p
  simp [runD, env0, mSeq, mIfS, mNot, mB, mIsC, mVar, isC, mRet, mC, mTV, mAnd, mOr, mBin, mFld, dEqF, flV, retM, DL.bindM, mNx, mCall, lenM, mCons, mNil, mTup, mIsT, isT, mSet, mAsg, tgTup, tgCons, tgN, tgNil, mk_Ratio_1, mk_Ratio_2, mCallO, lenO, runO, mRetO, mLst, mIf, mUn, dNegI, mIsT2, mNoP, mPart, oListC, mDrop, mNever, e, cTup]
theorem evl_cat {a b : Env' → Mo D} (ha : EvD a env Q k) (hb : EvD b env Q l) (hk : k + l ≤ 100000) : EvL (oCat a b) env Q (k + l) := by
  obtain ⟨ds, e1, q1, l1⟩ := ha
  obtain ⟨es, e2, q2, l2⟩ := hb
  refine ⟨ds ++ es, ?_, fun x hx => ?_, by rw [List.length_append]; omega⟩
  · unfold oCat
    rw [e1, bindM_ret, e2, bindM_ret]
    dsimp only
    rw [if_pos (by omega)]
  · rcases List.mem_append.mp hx with hx | hx
    · exact q1 x hx
    · exact q2 x hx
theorem evl_slice {a : Env' → Mo D} {lo hi : Env' → Mo (Option Int)} (ha : EvD a env Q k) (hl : EvP lo env) (hh : EvP hi env) : EvL (oSlice a lo hi) env Q k := by
  obtain ⟨ds, e1, q1, l1⟩ := ha
  obtain ⟨v1, e2⟩ := hl
  obtain ⟨v2, e3⟩ := hh
  refine ⟨DL.cutD ds v1 v2, ?_, fun x hx => ?_, ?_⟩
  · unfold oSlice
    rw [e1, bindM_ret, e2, bindM_ret, e3, bindM_ret]
  · unfold DL.cutD at hx
    exact q1 x (List.mem_of_mem_drop (List.mem_of_mem_take hx))
  · unfold DL.cutD
    rw [List.length_take, List.length_drop]
    omega
theorem evl_rev {a : Env' → Mo D} (ha : EvD a env Q k) : EvL (oRev a) env Q k := by
  obtain ⟨ds, e1, q1, l1⟩ := ha
  refine ⟨ds.reverse, ?_, fun x hx => q1 x (List.mem_reverse.mp hx), by rw [List.length_reverse]; exact l1⟩
  unfold oRev
  rw [e1, bindM_ret]
theorem evp_no : EvP mNoP env := ⟨none, rfl⟩
theorem evp_of {a : Env' → Mo D} {i : Int} (h : a env = retM (.int i)) : EvP (mPart a) env := by
  refine ⟨some i, ?_⟩
  unfold mPart
  rw [h, bindM_ret]
theorem evl_rg {a : Env' → Mo D} {j : Nat} (h : a env = retM (.int (j : Nat))) (hj : j ≤ 1000) : EvL (oRg1 a) env (Nc M 0) j := by
  refine ⟨(rngI j).map .int, rg1 h hj, fun d hd => ?_, by rw [List.length_map, rngI_len]; exact Nat.le_refl _⟩
  obtain ⟨i, hi, rfl⟩ := List.mem_map.mp hd
  have := rngI_mem hi
  exact .flat (.int i (Nat.lt_trans (show i.natAbs < 1000 by omega) (by decide +kernel)))
theorem nc_int {i : Int} (h : i.natAbs < 10 ^ 22) : Nc M n (.int i) := .flat (.int i h)
theorem nc_small {i : Int} (h1 : -1000 ≤ i) (h2 : i ≤ 1000) : Nc M n (.int i) := .flat (.int i (Nat.lt_trans (show i.natAbs < 1001 by omega) (by decide +kernel)))
theorem nc_str {x : Str} (h : (reprText x).length ≤ 24) : Nc M n (.str x) := .flat (.str x h)
theorem nc_bl {b : Bool} : Nc M n (.bl b) := .flat (.bl b)
theorem nc_non : Nc M n .non := .flat .non
end
/-! ### statements -/
def WP (m : MS) (env : Env') (p : Pt) (R : Out → Env' → Pt → Prop) : Prop := ∃ o env' p', m env p = some ((o, env'), p') ∧ R o env' p'
section
variable {env : Env'} {p : Pt} {R : Out → Env' → Pt → Prop} {a b : MS} {i : Nat}
theorem wp_seq (h : WP a env p fun o e' p' => o = .nx ∧ WP b e' p' R) : WP (mSeq a b) env p R := by
  obtain ⟨o, e', p1, h1, rfl, o2, e2, p2, h2, r⟩ := h
  refine ⟨o2, e2, p2, ?_, r⟩
  simp [runD, env0, mSeq, mIfS, mNot, mB, mIsC, mVar, isC, mRet, mC, mTV, mAnd, mOr, mBin, mFld, dEqF, flV, retM, DL.bindM, mNx, mCall, lenM, mCons, mNil, mTup, mIsT, isT, mSet, mAsg, tgTup, tgCons, tgN, tgNil, mk_Ratio_1, mk_Ratio_2, mCallO, lenO, runO, mRetO, mLst, mIf, mUn, dNegI, mIsT2, mNoP, mPart, oListC, mDrop, mNever, h1, h2]
theorem wp_set {m : Env' → Mo D} (h : ∃ d p', m env p = some (d, p') ∧ R .nx (env.set i (.val d)) p') : WP (mSet i m) env p R := by
  obtain ⟨d, p', e, r⟩ := h
  exact ⟨_, _, _, by simp [runD, env0, mSeq, mIfS, mNot, mB, mIsC, mVar, isC, mRet, mC, mTV, mAnd, mOr, mBin, mFld, dEqF, flV, retM, DL.bindM, mNx, mCall, lenM, mCons, mNil, mTup, mIsT, isT, mSet, mAsg, tgTup, tgCons, tgN, tgNil, mk_Ratio_1, mk_Ratio_2, mCallO, lenO, runO, mRetO, mLst, mIf, mUn, dNegI, mIsT2, mNoP, mPart, oListC, mDrop, mNever, e], r⟩
theorem wp_setO {o : Env' → Mo (List D)} (hi : i < env.length) (h : ∃ ds p', o env p = some (ds, p') ∧ R .nx (env.set i (.own ds)) p') : WP (mSetO i o) env p R := by
  obtain ⟨ds, p', e, r⟩ := h
  refine ⟨_, _, _, ?_, r⟩
  unfold mSetO
  simp [runD, env0, mSeq, mIfS, mNot, mB, mIsC, mVar, isC, mRet, mC, mTV, mAnd, mOr, mBin, mFld, dEqF, flV, retM, DL.bindM, mNx, mCall, lenM, mCons, mNil, mTup, mIsT, isT, mSet, mAsg, tgTup, tgCons, tgN, tgNil, mk_Ratio_1, mk_Ratio_2, mCallO, lenO, runO, mRetO, mLst, mIf, mUn, dNegI, mIsT2, mNoP, mPart, oListC, mDrop, mNever, e, hi]
theorem wp_ext {m : Env' → Mo D} {ds : List D} (hv : env[i]? = some (.own ds)) (h : ∃ es p', m env p = some (.lst es, p') ∧ ds.length + es.length ≤ 100000 ∧ R .nx (env.set i (.own (ds ++ es))) p') : WP (mExt i m) env p R := by
  obtain ⟨es, p', e, hl, r⟩ := h
  refine ⟨_, _, _, ?_, r⟩
  unfold mExt
  simp [runD, env0, mSeq, mIfS, mNot, mB, mIsC, mVar, isC, mRet, mC, mTV, mAnd, mOr, mBin, mFld, dEqF, flV, retM, DL.bindM, mNx, mCall, lenM, mCons, mNil, mTup, mIsT, isT, mSet, mAsg, tgTup, tgCons, tgN, tgNil, mk_Ratio_1, mk_Ratio_2, mCallO, lenO, runO, mRetO, mLst, mIf, mUn, dNegI, mIsT2, mNoP, mPart, oListC, mDrop, mNever, e, hv, hl]
theorem wp_frz {ds : List D} (hv : env[i]? = some (.own ds)) (h : WP a (env.set i (.val (.lst ds))) p R) : WP (mFrz i a) env p R := by
  obtain ⟨o, e', p', e, r⟩ := h
  refine ⟨o, e', p', ?_, r⟩
  unfold mFrz
  rw [hv]
  exact e
theorem wp_frzV {d : D} (hv : env[i]? = some (.val d)) (h : WP a env p R) : WP (mFrz i a) env p R := by
  obtain ⟨o, e', p', e, r⟩ := h
  refine ⟨o, e', p', ?_, r⟩
  unfold mFrz
  rw [hv]
  exact e
theorem wp_ret {m : Env' → Mo D} (h : ∃ d p', m env p = some (d, p') ∧ R (.rt d) env p') : WP (mRet m) env p R := by
  obtain ⟨d, p', e, r⟩ := h
  exact ⟨_, _, _, by simp [runD, env0, mSeq, mIfS, mNot, mB, mIsC, mVar, isC, mRet, mC, mTV, mAnd, mOr, mBin, mFld, dEqF, flV, retM, DL.bindM, mNx, mCall, lenM, mCons, mNil, mTup, mIsT, isT, mSet, mAsg, tgTup, tgCons, tgN, tgNil, mk_Ratio_1, mk_Ratio_2, mCallO, lenO, runO, mRetO, mLst, mIf, mUn, dNegI, mIsT2, mNoP, mPart, oListC, mDrop, mNever, e], r⟩
theorem wp_nx (h : R .nx env p) : WP mNx env p R := ⟨_, _, _, rfl, h⟩
theorem wp_no {c : Env' → Mo Bool} (hc : c env = retM false) (h : R .nx env p) : WP (mIfS c a mNx) env p R := by
  refine ⟨_, _, _, ?_, h⟩
  simp [runD, env0, mSeq, mIfS, mNot, mB, mIsC, mVar, isC, mRet, mC, mTV, mAnd, mOr, mBin, mFld, dEqF, flV, retM, DL.bindM, mNx, mCall, lenM, mCons, mNil, mTup, mIsT, isT, mSet, mAsg, tgTup, tgCons, tgN, tgNil, mk_Ratio_1, mk_Ratio_2, mCallO, lenO, runO, mRetO, mLst, mIf, mUn, dNegI, mIsT2, mNoP, mPart, oListC, mDrop, mNever, hc]
theorem wp_par {j : Nat} {m : Env' → Mo (List D)} (h : ∃ d e p', m env p = some ([d, e], p') ∧ R .nx ((env.set i (.val d)).set j (.val e)) p') : WP (mPar i j m) env p R := by
  obtain ⟨d, e, p', h1, r⟩ := h
  refine ⟨_, _, _, ?_, r⟩
  unfold mPar
  simp [runD, env0, mSeq, mIfS, mNot, mB, mIsC, mVar, isC, mRet, mC, mTV, mAnd, mOr, mBin, mFld, dEqF, flV, retM, DL.bindM, mNx, mCall, lenM, mCons, mNil, mTup, mIsT, isT, mSet, mAsg, tgTup, tgCons, tgN, tgNil, mk_Ratio_1, mk_Ratio_2, mCallO, lenO, runO, mRetO, mLst, mIf, mUn, dNegI, mIsT2, mNoP, mPart, oListC, mDrop, mNever, h1]
/-- a loop that goes on to its end -/
theorem loop_inv {g : MG} {body : MS} {I : Env' → Pt → Prop} : ∀ (ds : List D), (∀ d ∈ ds, ∀ e p, I e p → ∃ e1, g d e = some e1 ∧ WP body e1 p fun o e' p' => o = .nx ∧ I e' p') → ∀ e p, I e p → ∃ e' p', loopM (mTg g body) ds e p = some ((.nx, e'), p') ∧ I e' p'
  | [], _, e, p, hI => ⟨e, p, rfl, hI⟩
  | d :: ds, h, e, p, hI => by
    obtain ⟨e1, g1, o, e2, p2, b1, rfl, I2⟩ := h d List.mem_cons_self e p hI
    obtain ⟨e3, p3, b2, I3⟩ := loop_inv ds (fun d' hd' => h d' (List.mem_cons_of_mem _ hd')) e2 p2 I2
    refine ⟨e3, p3, ?_, I3⟩
    conv => lhs; unfold loopM
    simp [runD, env0, mSeq, mIfS, mNot, mB, mIsC, mVar, isC, mRet, mC, mTV, mAnd, mOr, mBin, mFld, dEqF, flV, retM, DL.bindM, mNx, mCall, lenM, mCons, mNil, mTup, mIsT, isT, mSet, mAsg, tgTup, tgCons, tgN, tgNil, mk_Ratio_1, mk_Ratio_2, mCallO, lenO, runO, mRetO, mLst, mIf, mUn, dNegI, mIsT2, mNoP, mPart, oListC, mDrop, mNever, mTg, g1, b1, b2]
theorem wp_for {src : Env' → Mo (List D)} {g : MG} {body : MS} {I : Env' → Pt → Prop} (h : ∃ ds p1, src env p = some (ds, p1) ∧ I env p1 ∧ (∀ d ∈ ds, ∀ e p, I e p → ∃ e1, g d e = some e1 ∧ WP body e1 p fun o e' p' => o = .nx ∧ I e' p')) (hR : ∀ e p, I e p → R .nx e p) : WP (mFor src g body) env p R := by
  obtain ⟨ds, p1, e1, I1, hb⟩ := h
  obtain ⟨e', p', e2, I2⟩ := loop_inv ds hb env p1 I1
  refine ⟨_, _, _, ?_, hR e' p' I2⟩
  unfold mFor
  simp [runD, env0, mSeq, mIfS, mNot, mB, mIsC, mVar, isC, mRet, mC, mTV, mAnd, mOr, mBin, mFld, dEqF, flV, retM, DL.bindM, mNx, mCall, lenM, mCons, mNil, mTup, mIsT, isT, mSet, mAsg, tgTup, tgCons, tgN, tgNil, mk_Ratio_1, mk_Ratio_2, mCallO, lenO, runO, mRetO, mLst, mIf, mUn, dNegI, mIsT2, mNoP, mPart, oListC, mDrop, mNever, e1, e2]
theorem run_wp {n : Nat} {m : MS} {ds : List D} {S : D → Pt → Prop} (h : WP m (env0 n ds) p fun o _ p' => ∃ d, o = .rt d ∧ S d p') : ∃ d p', runD n m ds p = some (d, p') ∧ S d p' := by
  obtain ⟨o, e', p', e, d, rfl, s⟩ := h
  refine ⟨d, p', ?_, s⟩
  unfold runD DL.bindM
  rw [e]
  rfl
end
theorem Ev.at {m : Env' → Mo D} {env : Env'} {Q : D → Prop} (h : Ev m env Q) (p : Pt) : ∃ d, m env p = some (d, p) ∧ Q d := by
  obtain ⟨d, e, q⟩ := h
  exact ⟨d, by rw [e]; rfl, q⟩
theorem EvL.at {m : Env' → Mo (List D)} {env : Env'} {Q : D → Prop} {k : Nat} (h : EvL m env Q k) (p : Pt) : ∃ d, m env p = some (d, p) ∧ (∀ x ∈ d, Q x) ∧ d.length ≤ k := by
  obtain ⟨d, e, q⟩ := h
  exact ⟨d, by rw [e]; rfl, q⟩
theorem EvD.at {m : Env' → Mo D} {env : Env'} {Q : D → Prop} {k : Nat} (h : EvD m env Q k) (p : Pt) : ∃ d, m env p = some (.lst d, p) ∧ (∀ x ∈ d, Q x) ∧ d.length ≤ k := by
  obtain ⟨d, e, q⟩ := h
  exact ⟨d, by rw [e]; rfl, q⟩
end Q
end

section
set_option Elab.async false
set_option linter.all false
set_option maxRecDepth 100000
set_option maxHeartbeats 4000000
set_option exponentiation.threshold 20000
/-! k42: bent moves and plays. -/
namespace Q
open DL PySem PyProof.Rows
theorem cons_ne {a : Env' → Mo D} {m : Env' → Mo (List D)} {env : Env'} {ds : List D} (h : mCons a m env = retM ds) : ds ≠ [] := by
  intro z
  subst z
  have h1 := congrFun h (0, 0)
  unfold mCons at h1
  obtain ⟨x, p1, e1, e2⟩ := bindM_some h1
  obtain ⟨xs, p2, e3, e4⟩ := bindM_some e2
  cases e4
theorem new_ne {a : Env' → Mo D} {m : Env' → Mo (List D)} {env : Env'} {ds : List D} (h : mLst (mNew (mCons a m)) env = retM (.lst ds)) : ds ≠ [] := by
  have h1 := congrFun h (0, 0)
  unfold mLst mNew at h1
  obtain ⟨x, p1, e1, e2⟩ := bindM_some h1
  cases e2
  obtain ⟨y, p2, e3, e4⟩ := bindM_some e1
  split at e4
  case isFalse => cases e4
  cases e4
  unfold mCons at e3
  obtain ⟨z, p3, e5, e6⟩ := bindM_some e3
  obtain ⟨zs, p4, e7, e8⟩ := bindM_some e6
  cases e8
  exact fun z => nomatch z
theorem lst_cat {a b : Env' → Mo D} {env : Env'} {ds es : List D} (ha : a env = retM (.lst ds)) (hb : b env = retM (.lst es)) (hl : ds.length + es.length ≤ 100000) : mLst (oCat a b) env = retM (.lst (ds ++ es)) := by
  unfold mLst oCat
  rw [ha, bindM_ret, hb, bindM_ret]
  dsimp only
  rw [if_pos hl, bindM_ret]
theorem pick_at {X : Env' → Mo D} {env : Env'} {p : Pt} {ds : List D} (h0 : env[0]? = some (.val .pot)) (hX : X env = retM (.lst ds)) (hp : Good p) (hne : ds ≠ []) (hl : ds.length ≤ 1000) : ∃ d p', mCall (lenM 2 d__law_pick) (mCons (mVar 0) (mCons X mNil)) env p = some (d, p') ∧ d ∈ ds ∧ Good p' := by
  obtain ⟨d, p', hd, e, g⟩ := law_pick hp (List.length_pos_iff.mpr hne) (by omega)
  exact ⟨d, p', by simp [runD, env0, mSeq, mIfS, mNot, mB, mIsC, mVar, isC, mRet, mC, mTV, mAnd, mOr, mBin, mFld, dEqF, flV, retM, DL.bindM, mNx, mCall, lenM, mCons, mNil, mTup, mIsT, isT, mSet, mAsg, tgTup, tgCons, tgN, tgNil, mk_Ratio_1, mk_Ratio_2, mCallO, lenO, runO, mRetO, mLst, mIf, mUn, dNegI, mIsT2, mNoP, mPart, oListC, mDrop, mNever, h0, hX, e], hd, g⟩
theorem draw_at {X : Env' → Mo D} {env : Env'} {p : Pt} {many : Int} (h0 : env[0]? = some (.val .pot)) (hX : X env = retM (.int many)) (hp : Good p) (h1 : 0 < many) (h2 : many < 4294967296) : ∃ r p', mCall (lenM 2 d__law_draw) (mCons (mVar 0) (mCons X mNil)) env p = some (.int r, p') ∧ 0 ≤ r ∧ r < many ∧ Good p' := by
  obtain ⟨r, p', e, a, b, g⟩ := law_draw hp h1 h2
  exact ⟨r, p', by simp [runD, env0, mSeq, mIfS, mNot, mB, mIsC, mVar, isC, mRet, mC, mTV, mAnd, mOr, mBin, mFld, dEqF, flV, retM, DL.bindM, mNx, mCall, lenM, mCons, mNil, mTup, mIsT, isT, mSet, mAsg, tgTup, tgCons, tgN, tgNil, mk_Ratio_1, mk_Ratio_2, mCallO, lenO, runO, mRetO, mLst, mIf, mUn, dNegI, mIsT2, mNoP, mPart, oListC, mDrop, mNever, h0, hX, e], a, b, g⟩
theorem ratio_ev {env : Env'} {X : Env' → Mo D} {i : Int} {M n : Nat} (hX : X env = retM (.int i)) (hi : i.natAbs < 10 ^ 60) : Ev (mCall (mk_Ratio_1 d_Ratio___init__) (mCons X mNil)) env (Nc M (n + 1)) := by
  refine ⟨rat (Rat.divInt i 1), ?_, .rt _ ?_⟩
  · have := init_eq i 1 (by decide) (by unfold bigN; decide +kernel)
    funext p
    simp [runD, env0, mSeq, mIfS, mNot, mB, mIsC, mVar, isC, mRet, mC, mTV, mAnd, mOr, mBin, mFld, dEqF, flV, retM, DL.bindM, mNx, mCall, lenM, mCons, mNil, mTup, mIsT, isT, mSet, mAsg, tgTup, tgCons, tgN, tgNil, mk_Ratio_1, mk_Ratio_2, mCallO, lenO, runO, mRetO, mLst, mIf, mUn, dNegI, mIsT2, mNoP, mPart, oListC, mDrop, mNever, hX, this]
  · rw [divInt1]
    refine ⟨?_, ?_⟩
    · rw [Rat.num_intCast]; exact hi
    · rw [Rat.den_intCast]; decide +kernel
theorem int_nc {xs : List Int} {k : Int} (h : ∀ x ∈ xs, 0 ≤ x ∧ x ≤ k) (hk : k ≤ 1000) {M n : Nat} : ∀ d ∈ xs.map D.int, Nc M n d := fun d hd => by
  obtain ⟨i, hi, rfl⟩ := List.mem_map.mp hd
  have := h i hi
  exact nc_small (by omega) (by omega)
theorem law_bent_move {n : Nat} (hn : isP n) {p : Pt} (hp : Good p) : ∃ d p', d__law_bent_move [.pot, .int (n : Nat)] p = some (d, p') ∧ Nc 23 3 d ∧ Good p' := by
  have hle := hn.le
  have hpos := hn.pos
  refine run_wp (S := fun d p' => Nc 23 3 d ∧ Good p') ?_
  obtain ⟨xs, p1, e1, l1, q1, g1⟩ := draw_ints hp (n := n) (by omega) n [.val .pot, .val (.int (n : Nat)), .un, .un, .un, .un, .un] 6 (fun _ => rfl) (fun _ => rfl)
  obtain ⟨at_, p2, e2, a1, a2, g2⟩ := law_draw g1 (many := (n : Nat)) (by omega) (by omega)
  refine wp_seq (wp_par ⟨.lst (xs.map .int), .int at_, p2, ?_, rfl, ?_⟩)
  · have b1 : (-1000000 : Int) ≤ (n : Int) := by omega
    have b2 : (n : Int) ≤ 1000000 := by omega
    have b3 : (rngD 0 n).length ≤ 100000 := by rw [rngD_len]; omega
    unfold mvDraw at e1
    generalize hM : mCall (lenM 2 d__law_draw) (mCons (mVar 0) (mCons (mVar 1) mNil)) = md at *
    have e3 : md [.val .pot, .val (.int (n : Nat)), .un, .un, .un, .un, .un] p1 = some (.int at_, p2) := by rw [← hM]; simp [runD, env0, mSeq, mIfS, mNot, mB, mIsC, mVar, isC, mRet, mC, mTV, mAnd, mOr, mBin, mFld, dEqF, flV, retM, DL.bindM, mNx, mCall, lenM, mCons, mNil, mTup, mIsT, isT, mSet, mAsg, tgTup, tgCons, tgN, tgNil, mk_Ratio_1, mk_Ratio_2, mCallO, lenO, runO, mRetO, mLst, mIf, mUn, dNegI, mIsT2, mNoP, mPart, oListC, mDrop, mNever, e2]
    show (mCons (mLst (mLc (srcR1 (mCons (mVar 1) mNil)) [6] (tgN 6) mYes md)) (mCons md mNil)) [.val .pot, .val (.int (n : Nat)), .un, .un, .un, .un, .un] p = _
    clear hM
    simp [runD, env0, mSeq, mIfS, mNot, mB, mIsC, mVar, isC, mRet, mC, mTV, mAnd, mOr, mBin, mFld, dEqF, flV, retM, DL.bindM, mNx, mCall, lenM, mCons, mNil, mTup, mIsT, isT, mSet, mAsg, tgTup, tgCons, tgN, tgNil, mk_Ratio_1, mk_Ratio_2, mCallO, lenO, runO, mRetO, mLst, mIf, mUn, dNegI, mIsT2, mNoP, mPart, oListC, mDrop, mNever, mLc, srcR1, b1, b2, b3, wipeE, e1, e3]
  show WP _ [.val .pot, .val (.int (n : Nat)), .val (.lst (xs.map .int)), .val (.int at_), .un, .un, .un] p2 _
  have given : ∀ (odd : SV) (v5 : SV) (k : Nat), EvD (mVar 2) [.val .pot, .val (.int (n : Nat)), .val (.lst (xs.map .int)), .val (.int at_), odd, v5, .un] (Nc 23 k) 11 := fun odd v5 k => evd_var rfl (int_nc q1 (by omega)) (by rw [List.length_map]; omega)
  have prime : ∀ (odd : SV) (v5 : SV) (k : Nat), Ev (mVar 1) [.val .pot, .val (.int (n : Nat)), .val (.lst (xs.map .int)), .val (.int at_), odd, v5, .un] (Nc 23 k) := fun odd v5 k => ev_var rfl (nc_small (by omega) (by omega))
  have neg : ∀ (env : Env') (k : Nat), Ev (mUn dNegI (mC (.int 1))) env (Nc 23 k) := fun env k => ⟨.int (-1), rfl, nc_small (by decide) (by decide)⟩
  have pow : ∀ (env : Env') (k : Nat), Ev (mBin dPowI (mC (.int 10)) (mC (.int 20))) env (Nc 23 k) := fun env k => ⟨.int 100000000000000000000, rfl, nc_int (by decide +kernel)⟩
  have rt1 : ∀ (env : Env') (k : Nat), Ev (mCall (mk_Ratio_1 d_Ratio___init__) (mCons (mC (.int 1)) mNil)) env (Nc 23 (k + 1)) := fun env k => ratio_ev rfl (by decide +kernel)
  have rt0 : ∀ (env : Env') (k : Nat), Ev (mCall (mk_Ratio_1 d_Ratio___init__) (mCons (mC (.int 0)) mNil)) env (Nc 23 (k + 1)) := fun env k => ratio_ev rfl (by decide +kernel)
  have at1_ : ∀ (odd : SV) (v5 : SV), EvP (mPart (mVar 3)) [.val .pot, .val (.int (n : Nat)), .val (.lst (xs.map .int)), .val (.int at_), odd, v5, .un] := fun _ _ => evp_of rfl
  have at2_ : ∀ (odd : SV) (v5 : SV), EvP (mPart (mBin dAddI (mVar 3) (mC (.int 1)))) [.val .pot, .val (.int (n : Nat)), .val (.lst (xs.map .int)), .val (.int at_), odd, v5, .un] := fun _ _ => evp_of (i := at_ + 1) rfl
  have at3_ : ∀ env : Env', EvP (mPart (mC (.int 1))) env := fun _ => evp_of (i := 1) rfl
  have sub : ∀ (odd : SV) (v5 : SV) (k : Nat), Ev (mBin dSubI (mVar 1) (mC (.int 1))) [.val .pot, .val (.int (n : Nat)), .val (.lst (xs.map .int)), .val (.int at_), odd, v5, .un] (Nc 23 k) := fun _ _ k => ⟨.int ((n : Int) - 1), rfl, nc_small (by omega) (by omega)⟩
  generalize hE : (fun odd v5 : SV => ([.val .pot, .val (.int (n : Nat)), .val (.lst (xs.map .int)), .val (.int at_), odd, v5, .un] : Env')) = E at *
  have E0 : ∀ odd v5 : SV, (E odd v5)[0]? = some (.val .pot) := fun odd v5 => by rw [← hE]; rfl
  have given : ∀ (odd : SV) (v5 : SV) (k : Nat), EvD (mVar 2) (E odd v5) (Nc 23 k) 11 := by rw [← hE]; exact given
  have prime : ∀ (odd : SV) (v5 : SV) (k : Nat), Ev (mVar 1) (E odd v5) (Nc 23 k) := by rw [← hE]; exact prime
  have at1_ : ∀ (odd : SV) (v5 : SV), EvP (mPart (mVar 3)) (E odd v5) := by rw [← hE]; exact at1_
  have at2_ : ∀ (odd : SV) (v5 : SV), EvP (mPart (mBin dAddI (mVar 3) (mC (.int 1)))) (E odd v5) := by rw [← hE]; exact at2_
  have sub : ∀ (odd : SV) (v5 : SV) (k : Nat), Ev (mBin dSubI (mVar 1) (mC (.int 1))) (E odd v5) (Nc 23 k) := by rw [← hE]; exact sub
  have E4 : ∀ d : D, (E .un .un).set 4 (.val d) = E (.val d) .un := fun d => by rw [← hE]; rfl
  have E5 : ∀ (odd v5 w : SV), (E odd v5).set 5 w = E odd w := fun odd v5 w => by rw [← hE]; rfl
  have E4v : ∀ (d : D) (v5 : SV), (E (.val d) v5)[4]? = some (.val d) := fun d v5 => by rw [← hE]; rfl
  have E5v : ∀ odd v5 : SV, (E odd v5)[5]? = some v5 := fun odd v5 => by rw [← hE]; rfl
  have El : ∀ odd v5 : SV, (E odd v5).length = 7 := fun odd v5 => by rw [← hE]; rfl
  rw [show ([.val .pot, .val (.int (n : Nat)), .val (.lst (xs.map .int)), .val (.int at_), .un, .un, .un] : Env') = E .un .un by rw [← hE]]
  clear hE
  refine wp_seq ?_
  have hO : EvD (mLst (mNew (mCons (mVar 1) (mCons (mUn dNegI (mC (.int 1))) (mCons (mC (.bl true)) (mCons (mC (.bl false)) (mCons (mC .non) (mCons (mC (.str "1")) (mCons (mLst (mNew (mCons (mC (.int 1)) mNil))) (mCons (mTup (mCons (mC (.int 1)) mNil)) (mCons (mBin dPowI (mC (.int 10)) (mC (.int 20))) (mCons (mCall (mk_Ratio_1 d_Ratio___init__) (mCons (mC (.int 1)) mNil)) (mCons (mCall (mk_Ratio_1 d_Ratio___init__) (mCons (mC (.int 0)) mNil)) mNil))))))))))))) (E .un .un) (Nc 23 1) 11 := by
    exact by (repeat' (first
      | exact evl_nil
      | apply evl_cons
      | exact ev_c nc_bl
      | exact ev_c nc_non
      | exact ev_c .ed
      | exact ev_c (nc_str (by decide +kernel))
      | exact ev_c (nc_small (by decide) (by decide))
      | exact prime _ _ _
      | exact neg _ _
      | exact pow _ _
      | exact rt1 _ _
      | exact rt0 _ _
      | apply ev_tup
      | apply ev_ctup
      | exact evp_no
      | apply evl_new
      | apply evl_cat
      | apply evl_slice
      | apply evl_rev
      | apply evd_lst
      | apply ev_nc
      | decide
      | omega))
  obtain ⟨os, o1, o2, o3⟩ := hO
  obtain ⟨odd, p3, e3, hodd, g3⟩ := pick_at (E0 _ _) o1 g2 (new_ne o1) (by omega)
  refine wp_set ⟨odd, p3, e3, rfl, ?_⟩
  rw [E4]
  have hodd1 := o2 odd hodd
  clear o1 o2 o3 e3 hodd
  have od : ∀ (v5 : SV) (k : Nat), Ev (mVar 4) (E (.val odd) v5) (Nc 23 (k + 1)) := fun v5 k => ev_var (E4v _ _) (by rw [Nat.add_comm]; exact hodd1.upn k)
  refine wp_seq ?_
  have h5 : EvL (mNew (mCons (mTup (mCons (mC (.str "y")) (mCons (mLst (oCat (mLst (oCat (mLst (oSlice (mVar 2) mNoP (mPart (mVar 3)))) (mLst (mNew (mCons (mVar 4) mNil))))) (mLst (oSlice (mVar 2) (mPart (mBin dAddI (mVar 3) (mC (.int 1)))) mNoP)))) mNil))) (mCons (mTup (mCons (mC (.str "x")) (mCons (mCall cTup (mCons (mLst (oCat (mLst (oCat (mLst (oSlice (mVar 2) mNoP (mPart (mVar 3)))) (mLst (mNew (mCons (mVar 4) mNil))))) (mLst (oSlice (mVar 2) (mPart (mBin dAddI (mVar 3) (mC (.int 1)))) mNoP)))) mNil)) mNil))) (mCons (mTup (mCons (mC (.str "turn")) (mCons (mVar 4) mNil))) (mCons (mTup (mCons (mC (.str "turn")) (mCons (mC (.int 0)) mNil))) mNil))))) (E (.val odd) .un) (Nc 23 3) 4 := by
    exact by (repeat' (first
      | exact evl_nil
      | apply evl_cons
      | exact ev_c nc_bl
      | exact ev_c nc_non
      | exact ev_c .ed
      | exact ev_c (nc_str (by decide +kernel))
      | exact ev_c (nc_small (by decide) (by decide))
      | exact prime _ _ _
      | exact od _ _
      | exact given _ _ _
      | exact at1_ _ _
      | exact at2_ _ _
      | exact at3_ _
      | exact sub _ _ _
      | apply ev_tup
      | apply ev_ctup
      | exact evp_no
      | apply evl_new
      | apply evl_cat
      | apply evl_slice
      | apply evl_rev
      | apply evd_lst
      | apply ev_nc
      | decide
      | omega))
  obtain ⟨s1, f1, f2, f3⟩ := h5.at p3
  refine wp_setO (by rw [El]; decide) ⟨s1, p3, f1, rfl, ?_⟩
  rw [E5]
  refine wp_seq ?_
  have h6 : EvD (mLst (mNew (mCons (mTup (mCons (mC (.str "y")) (mCons (mLst (oCat (mVar 2) (mLst (mNew (mCons (mC (.int 0)) mNil))))) mNil))) (mCons (mTup (mCons (mC (.str "x")) (mCons (mLst (oSlice (mVar 2) (mPart (mC (.int 1))) mNoP)) mNil))) (mCons (mTup (mCons (mC (.str "y")) (mCons (mTup mNil) mNil))) (mCons (mTup (mCons (mC (.str "x")) (mCons (mC (.int 0)) mNil))) (mCons (mTup (mCons (mC (.str "y")) (mCons (mC .non) mNil))) (mCons (mTup (mCons (mC (.str "turn")) (mCons (mBin dSubI (mVar 1) (mC (.int 1))) mNil))) (mCons (mTup (mCons (mC (.str "turn")) (mCons (mLst (mNew (mCons (mC (.int 1)) mNil))) mNil))) (mCons (mTup (mCons (mC (.str "turn")) mNil)) mNil)))))))))) (E (.val odd) (.own s1)) (Nc 23 3) 8 := by
    exact by (repeat' (first
      | exact evl_nil
      | apply evl_cons
      | exact ev_c nc_bl
      | exact ev_c nc_non
      | exact ev_c .ed
      | exact ev_c (nc_str (by decide +kernel))
      | exact ev_c (nc_small (by decide) (by decide))
      | exact prime _ _ _
      | exact od _ _
      | exact given _ _ _
      | exact at1_ _ _
      | exact at2_ _ _
      | exact at3_ _
      | exact sub _ _ _
      | apply ev_tup
      | apply ev_ctup
      | exact evp_no
      | apply evl_new
      | apply evl_cat
      | apply evl_slice
      | apply evl_rev
      | apply evd_lst
      | apply ev_nc
      | decide
      | omega))
  obtain ⟨s2, f4, f5, f6⟩ := h6.at p3
  refine wp_ext (E5v _ _) ⟨s2, p3, f4, by omega, rfl, ?_⟩
  rw [E5]
  refine wp_seq ?_
  have h7 : EvD (mLst (mNew (mCons (mTup (mCons (mC (.str "z")) (mCons (mVar 2) mNil))) (mCons (mTup (mCons (mC (.str "Y")) (mCons (mVar 2) mNil))) (mCons (mTup (mCons (mC (.str "")) (mCons (mVar 2) mNil))) (mCons (mTup (mCons (mC (.str "turns")) (mCons (mC (.int 1)) mNil))) (mCons (mTup (mCons (mC .non) (mCons (mVar 2) mNil))) (mCons (mTup (mCons (mC (.int 0)) (mCons (mVar 2) mNil))) (mCons (mLst (mNew (mCons (mC (.str "y")) (mCons (mVar 2) mNil)))) (mCons (mTup (mCons (mC (.str "y")) (mCons (mVar 2) (mCons (mC (.int 0)) mNil)))) (mCons (mTup (mCons (mC (.str "y")) mNil)) mNil))))))))))) (E (.val odd) (.own (s1 ++ s2))) (Nc 23 3) 9 := by
    exact by (repeat' (first
      | exact evl_nil
      | apply evl_cons
      | exact ev_c nc_bl
      | exact ev_c nc_non
      | exact ev_c .ed
      | exact ev_c (nc_str (by decide +kernel))
      | exact ev_c (nc_small (by decide) (by decide))
      | exact prime _ _ _
      | exact od _ _
      | exact given _ _ _
      | exact at1_ _ _
      | exact at2_ _ _
      | exact at3_ _
      | exact sub _ _ _
      | apply ev_tup
      | apply ev_ctup
      | exact evp_no
      | apply evl_new
      | apply evl_cat
      | apply evl_slice
      | apply evl_rev
      | apply evd_lst
      | apply ev_nc
      | decide
      | omega))
  obtain ⟨s3, f7, f8, f9⟩ := h7.at p3
  refine wp_ext (E5v _ _) ⟨s3, p3, f7, by rw [List.length_append]; omega, rfl, ?_⟩
  rw [E5]
  refine wp_frz (E5v _ _) ?_
  rw [E5]
  have hq : ∀ d ∈ s1 ++ s2 ++ s3, Nc 23 3 d := fun d hd => by
    rcases List.mem_append.mp hd with hd | hd
    · rcases List.mem_append.mp hd with hd | hd
      · exact f2 d hd
      · exact f5 d hd
    · exact f8 d hd
  have hl : (s1 ++ s2 ++ s3).length ≤ 21 := by rw [List.length_append, List.length_append]; omega
  generalize s1 ++ s2 ++ s3 = s4 at *
  have h8 : EvD (mLst (mNew (mCons (mC .non) (mCons (mC (.str "y")) (mCons (mC (.int 1)) (mCons (mTup mNil) (mCons (mLst (mNew mNil)) (mCons (mC .ed) (mCons (mTup (mCons (mVar 2) (mCons (mC (.str "y")) mNil))) (mCons (mTup (mCons (mC (.str "y")) (mCons (mCall cTup (mCons (mVar 2) mNil)) mNil))) (mCons (mTup (mCons (mC (.str "x")) (mCons (mC .ed) mNil))) mNil))))))))))) (E (.val odd) (.val (.lst s4))) (Nc 23 3) 9 := by
    exact by (repeat' (first
      | exact evl_nil
      | apply evl_cons
      | exact ev_c nc_bl
      | exact ev_c nc_non
      | exact ev_c .ed
      | exact ev_c (nc_str (by decide +kernel))
      | exact ev_c (nc_small (by decide) (by decide))
      | exact prime _ _ _
      | exact od _ _
      | exact given _ _ _
      | exact at1_ _ _
      | exact at2_ _ _
      | exact at3_ _
      | exact sub _ _ _
      | apply ev_tup
      | apply ev_ctup
      | exact evp_no
      | apply evl_new
      | apply evl_cat
      | apply evl_slice
      | apply evl_rev
      | apply evd_lst
      | apply ev_nc
      | decide
      | omega))
  obtain ⟨s5, t1, t2, t3⟩ := h8
  have hne := new_ne t1
  have hX : mLst (oCat (mVar 5) (mLst (mNew (mCons (mC .non) (mCons (mC (.str "y")) (mCons (mC (.int 1)) (mCons (mTup mNil) (mCons (mLst (mNew mNil)) (mCons (mC .ed) (mCons (mTup (mCons (mVar 2) (mCons (mC (.str "y")) mNil))) (mCons (mTup (mCons (mC (.str "y")) (mCons (mCall cTup (mCons (mVar 2) mNil)) mNil))) (mCons (mTup (mCons (mC (.str "x")) (mCons (mC .ed) mNil))) mNil)))))))))))) (E (.val odd) (.val (.lst s4))) = retM (.lst (s4 ++ s5)) := by
    have hz : s4.length + s5.length ≤ 100000 := by omega
    have hv : mVar 5 (E (.val odd) (.val (.lst s4))) = retM (.lst s4) := by unfold mVar; rw [E5v]
    exact lst_cat hv t1 hz
  obtain ⟨d, p4, e4, hd, g4⟩ := pick_at (E0 _ _) hX g3 (by simp [runD, env0, mSeq, mIfS, mNot, mB, mIsC, mVar, isC, mRet, mC, mTV, mAnd, mOr, mBin, mFld, dEqF, flV, retM, DL.bindM, mNx, mCall, lenM, mCons, mNil, mTup, mIsT, isT, mSet, mAsg, tgTup, tgCons, tgN, tgNil, mk_Ratio_1, mk_Ratio_2, mCallO, lenO, runO, mRetO, mLst, mIf, mUn, dNegI, mIsT2, mNoP, mPart, oListC, mDrop, mNever, hne]) (by rw [List.length_append]; omega)
  refine wp_ret ⟨d, p4, e4, d, rfl, ?_, g4⟩
  rcases List.mem_append.mp hd with hd | hd
  · exact hq d hd
  · exact t2 d hd
end Q
end

section
set_option Elab.async false
set_option linter.all false
set_option maxRecDepth 100000
set_option maxHeartbeats 4000000
set_option exponentiation.threshold 20000
/-! k42: bent plays; deals are told rightly. -/
namespace Q
open DL PySem PyProof.Rows
theorem law_bent_play {n : Nat} (hn : isP n) {p : Pt} (hp : Good p) {ds : List D} (hq : ∀ d ∈ ds, Nc 23 2 d) (hl : ds.length ≤ 8) : ∃ d p', d__law_bent_play [.pot, .int (n : Nat), .lst ds] p = some (d, p') ∧ Nc 23 4 d ∧ Good p' := by
  refine run_wp (S := fun d p' => Nc 23 4 d ∧ Good p') ?_
  obtain ⟨r, p1, e1, a1, a2, g1⟩ := draw_at (X := mBin dAddI (mCall cLen (mCons (mVar 2) mNil)) (mC (.int 1))) (env := [.val .pot, .val (.int (n : Nat)), .val (.lst ds), .un, .un]) (p := p) (many := (ds.length : Int) + 1) rfl rfl hp (by omega) (by omega)
  obtain ⟨mv, p2, e2, q2, g2⟩ := law_bent_move hn g1
  refine wp_seq (wp_set ⟨.int r, p1, e1, rfl, ?_⟩)
  refine wp_seq (wp_set ⟨mv, p2, ?_, rfl, ?_⟩)
  · show mCall (lenM 2 d__law_bent_move) (mCons (mVar 0) (mCons (mVar 1) mNil)) [.val .pot, .val (.int (n : Nat)), .val (.lst ds), .val (.int r), .un] p1 = _
    simp [runD, env0, mSeq, mIfS, mNot, mB, mIsC, mVar, isC, mRet, mC, mTV, mAnd, mOr, mBin, mFld, dEqF, flV, retM, DL.bindM, mNx, mCall, lenM, mCons, mNil, mTup, mIsT, isT, mSet, mAsg, tgTup, tgCons, tgN, tgNil, mk_Ratio_1, mk_Ratio_2, mCallO, lenO, runO, mRetO, mLst, mIf, mUn, dNegI, mIsT2, mNoP, mPart, oListC, mDrop, mNever, e2]
  show WP _ [.val .pot, .val (.int (n : Nat)), .val (.lst ds), .val (.int r), .val mv] p2 _
  have play : ∀ k : Nat, EvD (mVar 2) [.val .pot, .val (.int (n : Nat)), .val (.lst ds), .val (.int r), .val mv] (Nc 23 (k + 2)) 8 := fun k => evd_var rfl (fun d hd => by rw [Nat.add_comm]; exact (hq d hd).upn k) hl
  have mvv : ∀ k : Nat, Ev (mVar 4) [.val .pot, .val (.int (n : Nat)), .val (.lst ds), .val (.int r), .val mv] (Nc 23 (k + 3)) := fun k => ev_var rfl (by rw [Nat.add_comm]; exact q2.upn k)
  have at1_ : EvP (mPart (mVar 3)) [.val .pot, .val (.int (n : Nat)), .val (.lst ds), .val (.int r), .val mv] := evp_of rfl
  have at2_ : EvP (mPart (mBin dAddI (mVar 3) (mC (.int 1)))) [.val .pot, .val (.int (n : Nat)), .val (.lst ds), .val (.int r), .val mv] := evp_of (i := r + 1) rfl
  have E0 : ([.val .pot, .val (.int (n : Nat)), .val (.lst ds), .val (.int r), .val mv] : Env')[0]? = some (.val .pot) := rfl
  generalize ([.val .pot, .val (.int (n : Nat)), .val (.lst ds), .val (.int r), .val mv] : Env') = E at *
  have hO : EvD (mLst (mNew (mCons (mLst (oCat (mLst (oCat (mLst (oSlice (mVar 2) mNoP (mPart (mVar 3)))) (mLst (mNew (mCons (mVar 4) mNil))))) (mLst (oSlice (mVar 2) (mPart (mVar 3)) mNoP)))) (mCons (mLst (oCat (mLst (oCat (mLst (oSlice (mVar 2) mNoP (mPart (mVar 3)))) (mLst (mNew (mCons (mVar 4) mNil))))) (mLst (oSlice (mVar 2) (mPart (mBin dAddI (mVar 3) (mC (.int 1)))) mNoP)))) (mCons (mCall cTup (mCons (mLst (oCat (mLst (oSlice (mVar 2) mNoP (mPart (mVar 3)))) (mLst (mNew (mCons (mVar 4) mNil))))) mNil)) (mCons (mLst (mNew (mCons (mVar 4) mNil))) (mCons (mLst (mNew (mCons (mVar 2) mNil))) mNil))))))) E (Nc 23 4) 5 := by
    exact by (repeat' (first
      | exact evl_nil
      | apply evl_cons
      | exact ev_c nc_bl
      | exact ev_c nc_non
      | exact ev_c .ed
      | exact ev_c (nc_str (by decide +kernel))
      | exact ev_c (nc_small (by decide) (by decide))
      | exact play _
      | exact mvv _
      | exact at1_
      | exact at2_
      | apply ev_tup
      | apply ev_ctup
      | exact evp_no
      | apply evl_new
      | apply evl_cat
      | apply evl_slice
      | apply evl_rev
      | apply evd_lst
      | apply ev_nc
      | decide
      | omega))
  obtain ⟨os, o1, o2, o3⟩ := hO
  obtain ⟨d, p3, e3, hd, g3⟩ := pick_at E0 o1 g2 (new_ne o1) (by omega)
  exact wp_ret ⟨d, p3, e3, d, rfl, o2 d hd, g3⟩
theorem nes_str (s : Str) : dEqF true (.str s) (.str s) = retM (.bl false) := by
  unfold dEqF
  simp [runD, env0, mSeq, mIfS, mNot, mB, mIsC, mVar, isC, mRet, mC, mTV, mAnd, mOr, mBin, mFld, dEqF, flV, retM, DL.bindM, mNx, mCall, lenM, mCons, mNil, mTup, mIsT, isT, mSet, mAsg, tgTup, tgCons, tgN, tgNil, mk_Ratio_1, mk_Ratio_2, mCallO, lenO, runO, mRetO, mLst, mIf, mUn, dNegI, mIsT2, mNoP, mPart, oListC, mDrop, mNever, flV, L2.scal]
theorem deals_body {n : Nat} (hn : isP n) {d : D} (hd : Nc 250 2 d) (v0 v2 v3 v4 v5 v6 v7 v9 v10 v11 v12 : SV) (p : Pt) : WP (mSeq (mPar 9 10 (mCons (mCall (lenM 2 d__law_is_deal) (mCons (mVar 1) (mCons (mVar 8) mNil))) (mCons (mCall cReprU (mCons (mVar 8) mNil)) mNil))) (mSeq (mSet 11 (mLst (mNew (mCons (mCall (lenM 2 d_is_deal) (mCons (mVar 1) (mCons (mVar 8) mNil))) (mCons (mCall (pickM 2 [1, 0] d_is_deal) (mCons (mVar 8) (mCons (mVar 1) mNil))) mNil))))) (mIfS (mOr (mB (mBin (dEqF true) (mCall cReprU (mCons (mVar 11) mNil)) (mCall cReprU (mCons (mLst (mNew (mCons (mVar 9) (mCons (mVar 9) mNil)))) mNil)))) (mB (mBin (dEqF true) (mCall cReprU (mCons (mVar 8) mNil)) (mVar 10)))) (mRet (mC (.bl false))) mNx))) [v0, .val (.int (n : Nat)), v2, v3, v4, v5, v6, v7, .val d, v9, v10, v11, v12] p fun o e' p' => o = .nx ∧ p' = p ∧ ∃ w9 w10 w11, e' = [v0, .val (.int (n : Nat)), v2, v3, v4, v5, v6, v7, .val d, w9, w10, w11, v12] := by
  have hk := hd.kd (by decide)
  have h1 := deal_law (p := n) hn.le hk
  have h2 := isdeal_eq hn hk
  obtain ⟨t, h3⟩ := hd.repr (by decide) (by decide) (by decide +kernel)
  generalize dealB n d = b at *
  obtain ⟨u, h4⟩ := (show Nc 250 1 (.lst [.bl b, .bl b]) from .lst (by show 2 ≤ 250; decide) (fun x hx => by
    simp only [List.mem_cons, List.not_mem_nil, or_false, or_self] at hx
    subst hx
    exact nc_bl)).repr (by decide) (by decide) (by decide +kernel)
  refine wp_seq (wp_par ⟨.bl b, .str t, p, ?_, rfl, ?_⟩)
  · simp [runD, env0, mSeq, mIfS, mNot, mB, mIsC, mVar, isC, mRet, mC, mTV, mAnd, mOr, mBin, mFld, dEqF, flV, retM, DL.bindM, mNx, mCall, lenM, mCons, mNil, mTup, mIsT, isT, mSet, mAsg, tgTup, tgCons, tgN, tgNil, mk_Ratio_1, mk_Ratio_2, mCallO, lenO, runO, mRetO, mLst, mIf, mUn, dNegI, mIsT2, mNoP, mPart, oListC, mDrop, mNever, h1, h3]
  refine wp_seq (wp_set ⟨.lst [.bl b, .bl b], p, ?_, rfl, ?_⟩)
  · simp [runD, env0, mSeq, mIfS, mNot, mB, mIsC, mVar, isC, mRet, mC, mTV, mAnd, mOr, mBin, mFld, dEqF, flV, retM, DL.bindM, mNx, mCall, lenM, mCons, mNil, mTup, mIsT, isT, mSet, mAsg, tgTup, tgCons, tgN, tgNil, mk_Ratio_1, mk_Ratio_2, mCallO, lenO, runO, mRetO, mLst, mIf, mUn, dNegI, mIsT2, mNoP, mPart, oListC, mDrop, mNever, h2, mNew, pickM, pick]
  have n1 := nes_str u
  have n2 := nes_str t
  refine wp_no ?_ ⟨rfl, rfl, _, _, _, rfl⟩
  generalize dEqF = eqf at *
  funext q
  simp [runD, env0, mSeq, mIfS, mNot, mB, mIsC, mVar, isC, mRet, mC, mTV, mAnd, mOr, mBin, mFld, dEqF, flV, retM, DL.bindM, mNx, mCall, lenM, mCons, mNil, mTup, mIsT, isT, mSet, mAsg, tgTup, tgCons, tgN, tgNil, mk_Ratio_1, mk_Ratio_2, mCallO, lenO, runO, mRetO, mLst, mIf, mUn, dNegI, mIsT2, mNoP, mPart, oListC, mDrop, mNever, mNew, h4, h3, n1, n2]
end Q
end

section
set_option Elab.async false
set_option linter.all false
set_option maxRecDepth 100000
set_option maxHeartbeats 4000000
set_option exponentiation.threshold 20000
/-! k42: the law on deals. -/
namespace Q
open DL PySem PyProof.Rows
theorem evl_comp {e : Env' → Mo D} {env : Env'} {i j : Nat} {ds : List D} {Q : D → Prop} {k : Nat} (hs : srcL (mVar j) env = retM ds) (hl : ds.length ≤ k) (hk : k ≤ 100000) (he : ∀ d ∈ ds, ∃ y, e ((wipeE env [i]).set i (.val d)) = retM y ∧ Q y) : EvL (mLc (srcL (mVar j)) [i] (tgN i) mYes e) env Q k := by
  have key : ∀ ds : List D, (∀ d ∈ ds, ∃ y, e ((wipeE env [i]).set i (.val d)) = retM y ∧ Q y) → ∃ ys, compM (tgN i) mYes e (wipeE env [i]) ds = retM ys ∧ (∀ y ∈ ys, Q y) ∧ ys.length = ds.length := by
    intro ds
    induction ds with
    | nil => exact fun _ => ⟨[], rfl, (fun _ h => nomatch h), rfl⟩
    | cons d ds ih =>
      intro h
      obtain ⟨y, e1, q1⟩ := h d List.mem_cons_self
      obtain ⟨ys, e2, q2, l2⟩ := ih fun d' hd' => h d' (List.mem_cons_of_mem _ hd')
      refine ⟨y :: ys, ?_, fun x hx => ?_, by rw [List.length_cons, List.length_cons, l2]⟩
      · unfold compM
        show DL.bindM (mYes _) _ = _
        rw [show mYes ((wipeE env [i]).set i (.val d)) = retM true from rfl, bindM_ret, if_pos rfl, e1, bindM_ret, e2]
        rfl
      · rcases List.mem_cons.mp hx with rfl | hx
        · exact q1
        · exact q2 x hx
  obtain ⟨ys, e1, q1, l1⟩ := key ds he
  refine ⟨ys, ?_, q1, by omega⟩
  unfold mLc
  rw [hs, bindM_ret, if_pos (by omega)]
  exact e1
theorem eq_int (i j : Int) : dEqF false (.int i) (.int j) = retM (.bl (decide (i = j))) := by
  unfold dEqF
  simp [runD, env0, mSeq, mIfS, mNot, mB, mIsC, mVar, isC, mRet, mC, mTV, mAnd, mOr, mBin, mFld, dEqF, flV, retM, DL.bindM, mNx, mCall, lenM, mCons, mNil, mTup, mIsT, isT, mSet, mAsg, tgTup, tgCons, tgN, tgNil, mk_Ratio_1, mk_Ratio_2, mCallO, lenO, runO, mRetO, mLst, mIf, mUn, dNegI, mIsT2, mNoP, mPart, oListC, mDrop, mNever, flV, L2.scal]
theorem law_deals {n : Nat} (hn : isP n) {p : Pt} (hp : Good p) : ∃ p', d__law_deals_right [.pot, .int (n : Nat)] p = some (.bl true, p') ∧ Good p' := by
  have hle := hn.le
  have hpos := hn.pos
  have hsq := sq_le hle
  have hsq0 : 3 * 3 ≤ n * n := Nat.mul_le_mul hpos hpos
  suffices h : ∃ d p', d__law_deals_right [.pot, .int (n : Nat)] p = some (d, p') ∧ d = .bl true ∧ Good p' by
    obtain ⟨d, p', e, rfl, g⟩ := h
    exact ⟨p', e, g⟩
  refine run_wp (S := fun d p' => d = .bl true ∧ Good p') ?_
  have hmul := mulP n hle
  refine wp_seq (wp_set ⟨.int ((n * n : Nat) : Int), p, ?_, rfl, ?_⟩)
  · show mBin dMulI (mVar 1) (mVar 1) [.val .pot, .val (.int (n : Nat)), .un, .un, .un, .un, .un, .un, .un, .un, .un, .un, .un] p = _
    simp [runD, env0, mSeq, mIfS, mNot, mB, mIsC, mVar, isC, mRet, mC, mTV, mAnd, mOr, mBin, mFld, dEqF, flV, retM, DL.bindM, mNx, mCall, lenM, mCons, mNil, mTup, mIsT, isT, mSet, mAsg, tgTup, tgCons, tgN, tgNil, mk_Ratio_1, mk_Ratio_2, mCallO, lenO, runO, mRetO, mLst, mIf, mUn, dNegI, mIsT2, mNoP, mPart, oListC, mDrop, mNever, hmul]
  obtain ⟨N, hN⟩ : ∃ N : Nat, N = n * n := ⟨_, rfl⟩
  rw [← hN] at hsq hsq0 ⊢
  obtain ⟨es, p1, e1, l1, m1, g1⟩ := law_mixed hp (ds := (rngI N).map .int) (by rw [List.length_map, rngI_len]; omega)
  obtain ⟨ns, hns, q1⟩ : ∃ ns : List Int, es = ns.map .int ∧ ∀ x ∈ ns, 0 ≤ x ∧ x ≤ 121 := by
    clear e1 l1
    induction es with
    | nil => exact ⟨[], rfl, fun _ h => nomatch h⟩
    | cons d ds ih =>
      obtain ⟨xs, rfl, hx⟩ := ih fun e he => m1 e (List.mem_cons_of_mem _ he)
      obtain ⟨i, hi, rfl⟩ := List.mem_map.mp (m1 d List.mem_cons_self)
      have := rngI_mem hi
      refine ⟨i :: xs, rfl, fun y hy => ?_⟩
      rcases List.mem_cons.mp hy with rfl | hy
      · omega
      · exact hx y hy
  subst hns
  rw [List.length_map, List.length_map, rngI_len] at l1
  have hrg : oRg1 (mVar 2) [.val .pot, .val (.int (n : Nat)), .val (.int (N : Nat)), .un, .un, .un, .un, .un, .un, .un, .un, .un, .un] = retM ((rngI N).map .int) := rg1 rfl (by omega)
  refine wp_seq (wp_set ⟨.lst (ns.map .int), p1, ?_, rfl, ?_⟩)
  · show mLst (mCallO (lenO 2 o__law_mixed) (mCons (mVar 0) (mCons (mLst (oRg1 (mVar 2))) mNil))) [.val .pot, .val (.int (n : Nat)), .val (.int (N : Nat)), .un, .un, .un, .un, .un, .un, .un, .un, .un, .un] p = _
    generalize oRg1 (mVar 2) = rg at *
    simp [runD, env0, mSeq, mIfS, mNot, mB, mIsC, mVar, isC, mRet, mC, mTV, mAnd, mOr, mBin, mFld, dEqF, flV, retM, DL.bindM, mNx, mCall, lenM, mCons, mNil, mTup, mIsT, isT, mSet, mAsg, tgTup, tgCons, tgN, tgNil, mk_Ratio_1, mk_Ratio_2, mCallO, lenO, runO, mRetO, mLst, mIf, mUn, dNegI, mIsT2, mNoP, mPart, oListC, mDrop, mNever, hrg, e1]
  obtain ⟨at_, p2, e2, a1, a2, g2⟩ := law_draw g1 (many := (N : Nat)) (by omega) (by omega)
  obtain ⟨ot, p3, e3, b1, b2, g3⟩ := law_draw g2 (many := (N : Nat)) (by omega) (by omega)
  refine wp_seq (wp_par ⟨.int at_, .int ot, p3, ?_, rfl, ?_⟩)
  · show (mCons (mCall (lenM 2 d__law_draw) (mCons (mVar 0) (mCons (mVar 2) mNil))) (mCons (mCall (lenM 2 d__law_draw) (mCons (mVar 0) (mCons (mVar 2) mNil))) mNil)) [.val .pot, .val (.int (n : Nat)), .val (.int (N : Nat)), .val (.lst (ns.map .int)), .un, .un, .un, .un, .un, .un, .un, .un, .un] p1 = _
    simp [runD, env0, mSeq, mIfS, mNot, mB, mIsC, mVar, isC, mRet, mC, mTV, mAnd, mOr, mBin, mFld, dEqF, flV, retM, DL.bindM, mNx, mCall, lenM, mCons, mNil, mTup, mIsT, isT, mSet, mAsg, tgTup, tgCons, tgN, tgNil, mk_Ratio_1, mk_Ratio_2, mCallO, lenO, runO, mRetO, mLst, mIf, mUn, dNegI, mIsT2, mNoP, mPart, oListC, mDrop, mNever, e2, e3]
  have get : ∀ i : Int, 0 ≤ i → i < (N : Int) → ∃ x : Int, atD (.lst (ns.map .int)) (.int i) = retM (.int x) ∧ 0 ≤ x ∧ x ≤ 121 := fun i h0 h1 => by
    obtain ⟨k, rfl⟩ := Int.eq_ofNat_of_zero_le h0
    have hk : k < ns.length := by omega
    refine ⟨ns[k], at_lst (by rw [List.getElem?_map, List.getElem?_eq_getElem hk]; rfl), ?_⟩
    exact q1 _ (List.getElem_mem hk)
  obtain ⟨x1, hx1, hx1a, hx1b⟩ := get at_ a1 a2
  obtain ⟨x2, hx2, hx2a, hx2b⟩ := get ot b1 b2
  show WP _ [.val .pot, .val (.int (n : Nat)), .val (.int (N : Nat)), .val (.lst (ns.map .int)), .val (.int at_), .val (.int ot), .un, .un, .un, .un, .un, .un, .un] p3 _
  obtain ⟨E, hE⟩ : ∃ E : SV → SV → Env', E = fun odd v7 : SV => ([.val .pot, .val (.int (n : Nat)), .val (.int (N : Nat)), .val (.lst (ns.map .int)), .val (.int at_), .val (.int ot), odd, v7, .un, .un, .un, .un, .un] : Env') := ⟨_, rfl⟩
  have E0 : ∀ odd v7 : SV, (E odd v7)[0]? = some (.val .pot) := fun odd v7 => by rw [hE]; rfl
  have deal_ : ∀ (odd v7 : SV) (k : Nat), EvD (mVar 3) (E odd v7) (Nc 250 k) 121 := fun odd v7 k => by
    rw [hE]; exact evd_var rfl (int_nc q1 (by omega)) (by rw [List.length_map]; omega)
  have prime : ∀ (odd v7 : SV) (k : Nat), Ev (mVar 1) (E odd v7) (Nc 250 k) := fun odd v7 k => by rw [hE]; exact ev_var rfl (nc_small (by omega) (by omega))
  have whole : ∀ (odd v7 : SV) (k : Nat), Ev (mVar 2) (E odd v7) (Nc 250 k) := fun odd v7 k => by rw [hE]; exact ev_var rfl (nc_small (by omega) (by omega))
  have neg : ∀ (env : Env') (k : Nat), Ev (mUn dNegI (mC (.int 1))) env (Nc 250 k) := fun env k => ⟨.int (-1), rfl, nc_small (by decide) (by decide)⟩
  have pow : ∀ (env : Env') (k : Nat), Ev (mBin dPowI (mC (.int 10)) (mC (.int 20))) env (Nc 250 k) := fun env k => ⟨.int 100000000000000000000, rfl, nc_int (by decide +kernel)⟩
  have item1 : ∀ (odd v7 : SV), mBin atD (mVar 3) (mVar 4) (E odd v7) = retM (.int x1) := fun odd v7 => by
    rw [hE]; funext q; simp [runD, env0, mSeq, mIfS, mNot, mB, mIsC, mVar, isC, mRet, mC, mTV, mAnd, mOr, mBin, mFld, dEqF, flV, retM, DL.bindM, mNx, mCall, lenM, mCons, mNil, mTup, mIsT, isT, mSet, mAsg, tgTup, tgCons, tgN, tgNil, mk_Ratio_1, mk_Ratio_2, mCallO, lenO, runO, mRetO, mLst, mIf, mUn, dNegI, mIsT2, mNoP, mPart, oListC, mDrop, mNever, hx1]
  have item2 : ∀ (odd v7 : SV) (k : Nat), Ev (mBin atD (mVar 3) (mVar 5)) (E odd v7) (Nc 250 k) := fun odd v7 k => by
    refine ⟨.int x2, ?_, nc_small (by omega) (by omega)⟩
    rw [hE]; funext q; simp [runD, env0, mSeq, mIfS, mNot, mB, mIsC, mVar, isC, mRet, mC, mTV, mAnd, mOr, mBin, mFld, dEqF, flV, retM, DL.bindM, mNx, mCall, lenM, mCons, mNil, mTup, mIsT, isT, mSet, mAsg, tgTup, tgCons, tgN, tgNil, mk_Ratio_1, mk_Ratio_2, mCallO, lenO, runO, mRetO, mLst, mIf, mUn, dNegI, mIsT2, mNoP, mPart, oListC, mDrop, mNever, hx2]
  have rt : ∀ (odd v7 : SV) (k : Nat), Ev (mCall (mk_Ratio_1 d_Ratio___init__) (mCons (mBin atD (mVar 3) (mVar 4)) mNil)) (E odd v7) (Nc 250 (k + 1)) := fun odd v7 k => ratio_ev (item1 odd v7) (Nat.lt_trans (show x1.natAbs < 1000 by omega) (by decide +kernel))
  have at1_ : ∀ (odd v7 : SV), EvP (mPart (mVar 4)) (E odd v7) := fun odd v7 => by rw [hE]; exact evp_of rfl
  have at2_ : ∀ (odd v7 : SV), EvP (mPart (mBin dAddI (mVar 4) (mC (.int 1)))) (E odd v7) := fun odd v7 => by rw [hE]; exact evp_of (i := at_ + 1) rfl
  have rg2 : ∀ (odd v7 : SV) (k : Nat), EvL (oRg1 (mVar 2)) (E odd v7) (Nc 250 k) 121 := fun odd v7 k => by
    rw [hE]; exact (evl_rg (M := 250) (j := N) rfl (by omega)).imp (fun d hd => by have := hd.upn k; rw [Nat.zero_add] at this; exact this) (by omega)
  have rg1_ : ∀ (odd v7 : SV) (k : Nat), EvL (oRg1 (mVar 1)) (E odd v7) (Nc 250 k) 121 := fun odd v7 k => by
    rw [hE]; exact (evl_rg (M := 250) (j := n) rfl (by omega)).imp (fun d hd => by have := hd.upn k; rw [Nat.zero_add] at this; exact this) (by omega)
  have rgc : ∀ (env : Env') (j : Nat) (k : Nat), j ≤ 49 → EvL (oRg1 (mC (.int (j : Nat)))) env (Nc 250 k) 49 := fun env j k hj => (evl_rg (M := 250) (j := j) rfl (by omega)).imp (fun d hd => by have := hd.upn k; rw [Nat.zero_add] at this; exact this) hj
  have rg9 : ∀ (env : Env') (k : Nat), EvL (oRg1 (mC (.int 9))) env (Nc 250 k) 49 := fun env k => rgc env 9 k (by decide)
  have rg25 : ∀ (env : Env') (k : Nat), EvL (oRg1 (mC (.int 25))) env (Nc 250 k) 49 := fun env k => rgc env 25 k (by decide)
  have rg49 : ∀ (env : Env') (k : Nat), EvL (oRg1 (mC (.int 49))) env (Nc 250 k) 49 := fun env k => rgc env 49 k (by decide)
  have comp : ∀ (odd v7 : SV) (e : Env' → Mo D) (k : Nat), (∀ x : Int, 0 ≤ x → x ≤ 121 → ∃ y, e [.val .pot, .val (.int (n : Nat)), .val (.int (N : Nat)), .val (.lst (ns.map .int)), .val (.int at_), .val (.int ot), odd, v7, .un, .un, .un, .un, .val (.int x)] = retM y ∧ Nc 250 k y) → EvL (mLc (srcL (mVar 3)) [12] (tgN 12) mYes e) (E odd v7) (Nc 250 k) 121 := fun odd v7 e k he => by
    rw [hE]
    refine evl_comp (ds := ns.map .int) rfl (by rw [List.length_map]; omega) (by decide) fun d hd => ?_
    obtain ⟨x, hx, rfl⟩ := List.mem_map.mp hd
    exact he x (q1 x hx).1 (q1 x hx).2
  have c1 : ∀ (odd v7 : SV) (k : Nat), EvL (mLc (srcL (mVar 3)) [12] (tgN 12) mYes (mIf (mB (mBin (dEqF false) (mVar 12) (mC (.int 1)))) (mC (.bl true)) (mVar 12))) (E odd v7) (Nc 250 k) 121 := fun odd v7 k => comp odd v7 _ k fun x h0 h1 => by
    have := eq_int x 1
    by_cases hx : x = 1
    · rw [decide_eq_true hx] at this
      exact ⟨.bl true, by generalize dEqF = eqf at *; funext q; simp [runD, env0, mSeq, mIfS, mNot, mB, mIsC, mVar, isC, mRet, mC, mTV, mAnd, mOr, mBin, mFld, dEqF, flV, retM, DL.bindM, mNx, mCall, lenM, mCons, mNil, mTup, mIsT, isT, mSet, mAsg, tgTup, tgCons, tgN, tgNil, mk_Ratio_1, mk_Ratio_2, mCallO, lenO, runO, mRetO, mLst, mIf, mUn, dNegI, mIsT2, mNoP, mPart, oListC, mDrop, mNever, this], nc_bl⟩
    · rw [decide_eq_false hx] at this
      exact ⟨.int x, by generalize dEqF = eqf at *; funext q; simp [runD, env0, mSeq, mIfS, mNot, mB, mIsC, mVar, isC, mRet, mC, mTV, mAnd, mOr, mBin, mFld, dEqF, flV, retM, DL.bindM, mNx, mCall, lenM, mCons, mNil, mTup, mIsT, isT, mSet, mAsg, tgTup, tgCons, tgN, tgNil, mk_Ratio_1, mk_Ratio_2, mCallO, lenO, runO, mRetO, mLst, mIf, mUn, dNegI, mIsT2, mNoP, mPart, oListC, mDrop, mNever, this], nc_small (by omega) (by omega)⟩
  have c2 : ∀ (odd v7 : SV) (k : Nat), EvL (mLc (srcL (mVar 3)) [12] (tgN 12) mYes (mIf (mB (mBin (dEqF false) (mVar 12) (mC (.int 0)))) (mC (.bl false)) (mVar 12))) (E odd v7) (Nc 250 k) 121 := fun odd v7 k => comp odd v7 _ k fun x h0 h1 => by
    have := eq_int x 0
    by_cases hx : x = 0
    · rw [decide_eq_true hx] at this
      exact ⟨.bl false, by generalize dEqF = eqf at *; funext q; simp [runD, env0, mSeq, mIfS, mNot, mB, mIsC, mVar, isC, mRet, mC, mTV, mAnd, mOr, mBin, mFld, dEqF, flV, retM, DL.bindM, mNx, mCall, lenM, mCons, mNil, mTup, mIsT, isT, mSet, mAsg, tgTup, tgCons, tgN, tgNil, mk_Ratio_1, mk_Ratio_2, mCallO, lenO, runO, mRetO, mLst, mIf, mUn, dNegI, mIsT2, mNoP, mPart, oListC, mDrop, mNever, this], nc_bl⟩
    · rw [decide_eq_false hx] at this
      exact ⟨.int x, by generalize dEqF = eqf at *; funext q; simp [runD, env0, mSeq, mIfS, mNot, mB, mIsC, mVar, isC, mRet, mC, mTV, mAnd, mOr, mBin, mFld, dEqF, flV, retM, DL.bindM, mNx, mCall, lenM, mCons, mNil, mTup, mIsT, isT, mSet, mAsg, tgTup, tgCons, tgN, tgNil, mk_Ratio_1, mk_Ratio_2, mCallO, lenO, runO, mRetO, mLst, mIf, mUn, dNegI, mIsT2, mNoP, mPart, oListC, mDrop, mNever, this], nc_small (by omega) (by omega)⟩
  have c3 : ∀ (odd v7 : SV) (k : Nat), EvL (mLc (srcL (mVar 3)) [12] (tgN 12) mYes (mBin dAddI (mVar 12) (mC (.int 1)))) (E odd v7) (Nc 250 k) 121 := fun odd v7 k => comp odd v7 _ k fun x h0 h1 => ⟨.int (x + 1), rfl, nc_small (by omega) (by omega)⟩
  have c4 : ∀ (odd v7 : SV) (k : Nat), EvL (mLc (srcL (mVar 3)) [12] (tgN 12) mYes (mBin dSubI (mVar 12) (mC (.int 1)))) (E odd v7) (Nc 250 k) 121 := fun odd v7 k => comp odd v7 _ k fun x h0 h1 => ⟨.int (x - 1), rfl, nc_small (by omega) (by omega)⟩
  have E6 : ∀ d : D, (E .un .un).set 6 (.val d) = E (.val d) .un := fun d => by rw [hE]; rfl
  have E7 : ∀ (odd v7 w : SV), (E odd v7).set 7 w = E odd w := fun odd v7 w => by rw [hE]; rfl
  have E6v : ∀ (d : D) (v7 : SV), (E (.val d) v7)[6]? = some (.val d) := fun d v7 => by rw [hE]; rfl
  have E7v : ∀ odd v7 : SV, (E odd v7)[7]? = some v7 := fun odd v7 => by rw [hE]; rfl
  have El : ∀ odd v7 : SV, (E odd v7).length = 13 := fun odd v7 => by rw [hE]; rfl
  have EE : ∀ odd v7 : SV, E odd v7 = ([.val .pot, .val (.int (n : Nat)), .val (.int (N : Nat)), .val (.lst (ns.map .int)), .val (.int at_), .val (.int ot), odd, v7, .un, .un, .un, .un, .un] : Env') := fun odd v7 => by rw [hE]
  rw [← EE]
  clear hE comp rgc
  refine wp_seq ?_
  have hO : EvD (mLst (mNew (mCons (mC (.bl true)) (mCons (mC (.bl false)) (mCons (mC .non) (mCons (mC (.str "0")) (mCons (mUn dNegI (mC (.int 1))) (mCons (mVar 2) (mCons (mBin dPowI (mC (.int 10)) (mC (.int 20))) (mCons (mLst (mNew (mCons (mC (.int 0)) mNil))) (mCons (mTup (mCons (mC (.int 0)) mNil)) (mCons (mC .ed) (mCons (mCall (mk_Ratio_1 d_Ratio___init__) (mCons (mBin atD (mVar 3) (mVar 4)) mNil)) mNil))))))))))))) (E .un .un) (Nc 250 1) 11 := by
    exact by (repeat' (first
      | exact evl_nil
      | apply evl_cons
      | exact ev_c nc_bl
      | exact ev_c nc_non
      | exact ev_c .ed
      | exact ev_c (nc_str (by decide +kernel))
      | exact ev_c (nc_small (by decide) (by decide))
      | exact deal_ _ _ _
      | exact at1_ _ _
      | exact at2_ _ _
      | exact prime _ _ _
      | exact whole _ _ _
      | exact neg _ _
      | exact pow _ _
      | exact rt _ _ _
      | exact item2 _ _ _
      | exact rg2 _ _ _
      | exact rg1_ _ _ _
      | exact rg9 _ _
      | exact rg25 _ _
      | exact rg49 _ _
      | exact c1 _ _ _
      | exact c2 _ _ _
      | exact c3 _ _ _
      | exact c4 _ _ _
      | apply ev_tup
      | apply ev_ctup
      | exact evp_no
      | apply evl_new
      | apply evl_cat
      | apply evl_slice
      | apply evl_rev
      | apply evd_lst
      | apply ev_nc
      | decide
      | omega))
  obtain ⟨os, o1, o2, o3⟩ := hO
  obtain ⟨odd, p4, e4, hodd, g4⟩ := pick_at (E0 _ _) o1 g3 (new_ne o1) (by omega)
  refine wp_set ⟨odd, p4, e4, rfl, ?_⟩
  rw [E6]
  have hodd1 := o2 odd hodd
  clear o1 o2 o3 e4 hodd
  have od : ∀ (v7 : SV) (k : Nat), Ev (mVar 6) (E (.val odd) v7) (Nc 250 (k + 1)) := fun v7 k => ev_var (E6v _ _) (by rw [Nat.add_comm]; exact hodd1.upn k)
  refine wp_seq ?_
  have h5 : EvL (mNew (mCons (mVar 3) (mCons (mCall cTup (mCons (mVar 3) mNil)) (mCons (mLst (oRev (mVar 3))) (mCons (mLst (oRg1 (mVar 2))) (mCons (mLst (oCat (mLst (oSlice (mVar 3) mNoP (mPart (mVar 4)))) (mLst (oSlice (mVar 3) (mPart (mBin dAddI (mVar 4) (mC (.int 1)))) mNoP)))) (mCons (mLst (oCat (mLst (oSlice (mVar 3) mNoP (mPart (mBin dAddI (mVar 4) (mC (.int 1)))))) (mLst (oSlice (mVar 3) (mPart (mVar 4)) mNoP)))) mNil))))))) (E (.val odd) .un) (Nc 250 2) 6 := by
    exact by (repeat' (first
      | exact evl_nil
      | apply evl_cons
      | exact ev_c nc_bl
      | exact ev_c nc_non
      | exact ev_c .ed
      | exact ev_c (nc_str (by decide +kernel))
      | exact ev_c (nc_small (by decide) (by decide))
      | exact od _ _
      | exact deal_ _ _ _
      | exact at1_ _ _
      | exact at2_ _ _
      | exact prime _ _ _
      | exact whole _ _ _
      | exact neg _ _
      | exact pow _ _
      | exact rt _ _ _
      | exact item2 _ _ _
      | exact rg2 _ _ _
      | exact rg1_ _ _ _
      | exact rg9 _ _
      | exact rg25 _ _
      | exact rg49 _ _
      | exact c1 _ _ _
      | exact c2 _ _ _
      | exact c3 _ _ _
      | exact c4 _ _ _
      | apply ev_tup
      | apply ev_ctup
      | exact evp_no
      | apply evl_new
      | apply evl_cat
      | apply evl_slice
      | apply evl_rev
      | apply evd_lst
      | apply ev_nc
      | decide
      | omega))
  obtain ⟨s1, f1, f2, f3⟩ := h5.at p4
  refine wp_setO (by rw [El]; decide) ⟨s1, p4, f1, rfl, ?_⟩
  rw [E7]
  refine wp_seq ?_
  have h6 : EvD (mLst (mNew (mCons (mLst (oCat (mLst (oCat (mLst (oSlice (mVar 3) mNoP (mPart (mVar 4)))) (mLst (mNew (mCons (mVar 6) mNil))))) (mLst (oSlice (mVar 3) (mPart (mBin dAddI (mVar 4) (mC (.int 1)))) mNoP)))) (mCons (mCall cTup (mCons (mLst (oCat (mLst (oCat (mLst (oSlice (mVar 3) mNoP (mPart (mVar 4)))) (mLst (mNew (mCons (mVar 6) mNil))))) (mLst (oSlice (mVar 3) (mPart (mBin dAddI (mVar 4) (mC (.int 1)))) mNoP)))) mNil)) (mCons (mLst (oCat (mVar 3) (mLst (mNew (mCons (mVar 6) mNil))))) (mCons (mLst (oCat (mVar 3) (mLst (mNew (mCons (mVar 2) mNil))))) mNil)))))) (E (.val odd) (.own (s1))) (Nc 250 2) 4 := by
    exact by (repeat' (first
      | exact evl_nil
      | apply evl_cons
      | exact ev_c nc_bl
      | exact ev_c nc_non
      | exact ev_c .ed
      | exact ev_c (nc_str (by decide +kernel))
      | exact ev_c (nc_small (by decide) (by decide))
      | exact od _ _
      | exact deal_ _ _ _
      | exact at1_ _ _
      | exact at2_ _ _
      | exact prime _ _ _
      | exact whole _ _ _
      | exact neg _ _
      | exact pow _ _
      | exact rt _ _ _
      | exact item2 _ _ _
      | exact rg2 _ _ _
      | exact rg1_ _ _ _
      | exact rg9 _ _
      | exact rg25 _ _
      | exact rg49 _ _
      | exact c1 _ _ _
      | exact c2 _ _ _
      | exact c3 _ _ _
      | exact c4 _ _ _
      | apply ev_tup
      | apply ev_ctup
      | exact evp_no
      | apply evl_new
      | apply evl_cat
      | apply evl_slice
      | apply evl_rev
      | apply evd_lst
      | apply ev_nc
      | decide
      | omega))
  obtain ⟨t0, u0, v0, w0⟩ := h6.at p4
  refine wp_ext (E7v _ _) ⟨t0, p4, u0, by first | omega | (simp only [List.length_append]; omega), rfl, ?_⟩
  rw [E7]
  refine wp_seq ?_
  have h7 : EvD (mLst (mNew (mCons (mLst (mLc (srcL (mVar 3)) [12] (tgN 12) mYes (mIf (mB (mBin (dEqF false) (mVar 12) (mC (.int 1)))) (mC (.bl true)) (mVar 12)))) (mCons (mLst (mLc (srcL (mVar 3)) [12] (tgN 12) mYes (mIf (mB (mBin (dEqF false) (mVar 12) (mC (.int 0)))) (mC (.bl false)) (mVar 12)))) mNil)))) (E (.val odd) (.own (s1 ++ t0))) (Nc 250 2) 2 := by
    exact by (repeat' (first
      | exact evl_nil
      | apply evl_cons
      | exact ev_c nc_bl
      | exact ev_c nc_non
      | exact ev_c .ed
      | exact ev_c (nc_str (by decide +kernel))
      | exact ev_c (nc_small (by decide) (by decide))
      | exact od _ _
      | exact deal_ _ _ _
      | exact at1_ _ _
      | exact at2_ _ _
      | exact prime _ _ _
      | exact whole _ _ _
      | exact neg _ _
      | exact pow _ _
      | exact rt _ _ _
      | exact item2 _ _ _
      | exact rg2 _ _ _
      | exact rg1_ _ _ _
      | exact rg9 _ _
      | exact rg25 _ _
      | exact rg49 _ _
      | exact c1 _ _ _
      | exact c2 _ _ _
      | exact c3 _ _ _
      | exact c4 _ _ _
      | apply ev_tup
      | apply ev_ctup
      | exact evp_no
      | apply evl_new
      | apply evl_cat
      | apply evl_slice
      | apply evl_rev
      | apply evd_lst
      | apply ev_nc
      | decide
      | omega))
  obtain ⟨t1, u1, v1, w1⟩ := h7.at p4
  refine wp_ext (E7v _ _) ⟨t1, p4, u1, by first | omega | (simp only [List.length_append]; omega), rfl, ?_⟩
  rw [E7]
  refine wp_seq ?_
  have h8 : EvD (mLst (mNew (mCons (mLst (oCat (mLst (oCat (mLst (oSlice (mVar 3) mNoP (mPart (mVar 4)))) (mLst (mNew (mCons (mBin atD (mVar 3) (mVar 5)) mNil))))) (mLst (oSlice (mVar 3) (mPart (mBin dAddI (mVar 4) (mC (.int 1)))) mNoP)))) (mCons (mLst (mLc (srcL (mVar 3)) [12] (tgN 12) mYes (mBin dAddI (mVar 12) (mC (.int 1))))) (mCons (mLst (mLc (srcL (mVar 3)) [12] (tgN 12) mYes (mBin dSubI (mVar 12) (mC (.int 1))))) (mCons (mLst (mNew (mCons (mVar 3) mNil))) mNil)))))) (E (.val odd) (.own (s1 ++ t0 ++ t1))) (Nc 250 2) 4 := by
    exact by (repeat' (first
      | exact evl_nil
      | apply evl_cons
      | exact ev_c nc_bl
      | exact ev_c nc_non
      | exact ev_c .ed
      | exact ev_c (nc_str (by decide +kernel))
      | exact ev_c (nc_small (by decide) (by decide))
      | exact od _ _
      | exact deal_ _ _ _
      | exact at1_ _ _
      | exact at2_ _ _
      | exact prime _ _ _
      | exact whole _ _ _
      | exact neg _ _
      | exact pow _ _
      | exact rt _ _ _
      | exact item2 _ _ _
      | exact rg2 _ _ _
      | exact rg1_ _ _ _
      | exact rg9 _ _
      | exact rg25 _ _
      | exact rg49 _ _
      | exact c1 _ _ _
      | exact c2 _ _ _
      | exact c3 _ _ _
      | exact c4 _ _ _
      | apply ev_tup
      | apply ev_ctup
      | exact evp_no
      | apply evl_new
      | apply evl_cat
      | apply evl_slice
      | apply evl_rev
      | apply evd_lst
      | apply ev_nc
      | decide
      | omega))
  obtain ⟨t2, u2, v2, w2⟩ := h8.at p4
  refine wp_ext (E7v _ _) ⟨t2, p4, u2, by first | omega | (simp only [List.length_append]; omega), rfl, ?_⟩
  rw [E7]
  refine wp_seq ?_
  have h9 : EvD (mLst (mNew (mCons (mC .non) (mCons (mC (.int 0)) (mCons (mC (.str "")) (mCons (mC (.str "0")) (mCons (mC .ed) (mCons (mLst (mNew mNil)) (mCons (mTup mNil) (mCons (mC (.bl true)) (mCons (mLst (oRg1 (mVar 1))) (mCons (mLst (oRg1 (mC (.int 9)))) (mCons (mTup (oRg1 (mC (.int 25)))) (mCons (mLst (oRg1 (mC (.int 49)))) mNil)))))))))))))) (E (.val odd) (.own (s1 ++ t0 ++ t1 ++ t2))) (Nc 250 2) 12 := by
    exact by (repeat' (first
      | exact evl_nil
      | apply evl_cons
      | exact ev_c nc_bl
      | exact ev_c nc_non
      | exact ev_c .ed
      | exact ev_c (nc_str (by decide +kernel))
      | exact ev_c (nc_small (by decide) (by decide))
      | exact od _ _
      | exact deal_ _ _ _
      | exact at1_ _ _
      | exact at2_ _ _
      | exact prime _ _ _
      | exact whole _ _ _
      | exact neg _ _
      | exact pow _ _
      | exact rt _ _ _
      | exact item2 _ _ _
      | exact rg2 _ _ _
      | exact rg1_ _ _ _
      | exact rg9 _ _
      | exact rg25 _ _
      | exact rg49 _ _
      | exact c1 _ _ _
      | exact c2 _ _ _
      | exact c3 _ _ _
      | exact c4 _ _ _
      | apply ev_tup
      | apply ev_ctup
      | exact evp_no
      | apply evl_new
      | apply evl_cat
      | apply evl_slice
      | apply evl_rev
      | apply evd_lst
      | apply ev_nc
      | decide
      | omega))
  obtain ⟨t3, u3, v3, w3⟩ := h9.at p4
  refine wp_ext (E7v _ _) ⟨t3, p4, u3, by first | omega | (simp only [List.length_append]; omega), rfl, ?_⟩
  rw [E7]
  have hqF : ∀ d ∈ s1 ++ t0 ++ t1 ++ t2 ++ t3, Nc 250 2 d := fun d hd => by
    simp only [List.mem_append] at hd
    rcases hd with (((hd | hd) | hd) | hd) | hd
    · exact f2 d hd
    · exact v0 d hd
    · exact v1 d hd
    · exact v2 d hd
    · exact v3 d hd
  generalize s1 ++ t0 ++ t1 ++ t2 ++ t3 = sF at *
  refine wp_frz (E7v _ _) ?_
  rw [E7]
  refine wp_seq (wp_for (I := fun e p => Good p ∧ ∃ w8 w9 w10 w11, e = [.val .pot, .val (.int (n : Nat)), .val (.int (N : Nat)), .val (.lst (ns.map .int)), .val (.int at_), .val (.int ot), .val odd, .val (.lst sF), w8, w9, w10, w11, .un]) ?_ ?_)
  · refine ⟨sF, p4, ?_, ⟨g4, .un, .un, .un, .un, EE _ _⟩, fun d hd e q hI => ?_⟩
    · unfold srcL mVar
      rw [E7v]
      rfl
    · obtain ⟨gq, w8, w9, w10, w11, rfl⟩ := hI
      refine ⟨_, rfl, ?_⟩
      obtain ⟨o, e', p', h1, rfl, rfl, u9, u10, u11, rfl⟩ := deals_body hn (hqF d hd) (.val .pot) (.val (.int (N : Nat))) (.val (.lst (ns.map .int))) (.val (.int at_)) (.val (.int ot)) (.val odd) (.val (.lst sF)) w9 w10 w11 .un q
      exact ⟨.nx, _, _, h1, rfl, gq, _, _, _, _, rfl⟩
  · intro e q hI
    refine ⟨rfl, wp_ret ⟨.bl true, q, rfl, .bl true, rfl, rfl, hI.1⟩⟩
end Q
end

section
set_option Elab.async false
set_option linter.all false
set_option maxRecDepth 100000
set_option maxHeartbeats 4000000
set_option exponentiation.threshold 20000
/-! k42: plays are told rightly. -/
namespace Q
open DL PySem PyProof.Rows
noncomputable def inBody : MS := (mSeq (mSet 15 (mTV (mAnd (mB (mVar 11)) (mB (mBin (dEqU false) (mVar 13) (mVar 14)))))) (mSeq (mSet 8 (mLst (mNew (mCons (mCall (lenM 3 d_is_play_for) (mCons (mVar 1) (mCons (mLst (mCallO oListC (mCons (mVar 14) mNil))) (mCons (mVar 10) mNil)))) (mCons (mCall (pickM 3 [2, 1, 0] d_is_play_for) (mCons (mVar 10) (mCons (mCall cTup (mCons (mVar 14) mNil)) (mCons (mVar 1) mNil)))) mNil))))) (mIfS (mB (mBin (dEqU true) (mCall cReprU (mCons (mVar 8) mNil)) (mCall cReprU (mCons (mLst (mNew (mCons (mVar 15) (mCons (mVar 15) mNil)))) mNil)))) (mRet (mC (.bl false))) mNx)))
noncomputable def outBody : MS := (mSeq (mPar 11 12 (mCons (mCall (lenM 2 d__law_is_play) (mCons (mVar 1) (mCons (mVar 10) mNil))) (mCons (mCall cReprU (mCons (mVar 10) mNil)) mNil))) (mSeq (mIfS (mB (mBin (dEqU true) (mCall cReprU (mCons (mLst (mNew (mCons (mCall (lenM 2 d_is_play) (mCons (mVar 1) (mCons (mVar 10) mNil))) (mCons (mCall (pickM 2 [1, 0] d_is_play) (mCons (mVar 10) (mCons (mVar 1) mNil))) mNil)))) mNil)) (mCall cReprU (mCons (mLst (mNew (mCons (mVar 11) (mCons (mVar 11) mNil)))) mNil)))) (mRet (mC (.bl false))) mNx) (mSeq (mSet 13 (mIf (mB (mVar 11)) (mLst (mCallO (lenO 2 o__law_played) (mCons (mVar 1) (mCons (mVar 10) mNil)))) (mC .non))) (mFrz 6 (mSeq (mFor (srcL (mLst (mNew (mCons (mVar 3) (mCons (mVar 6) (mCons (mLst (oRg1 (mBin dMulI (mVar 1) (mVar 1)))) mNil)))))) (tgN 14) inBody) (mIfS (mB (mBin (dEqU true) (mCall cReprU (mCons (mVar 10) mNil)) (mVar 12))) (mRet (mC (.bl false))) mNx))))))
theorem nequ_str (s : Str) : dEqU true (.str s) (.str s) = retM (.bl false) := by
  unfold dEqU dEqR
  rw [dOr_ret (a := .bl false)]
  rw [dOr_ret (a := .bl false)]
  exact nes_str s
theorem bools_text (M : Nat) (hM : M = 23) (b : Bool) : ∃ t, cReprU [.lst [.bl b, .bl b]] = retM (.str t) :=
  (show Nc M 1 (.lst [.bl b, .bl b]) from .lst (by show 2 ≤ M; omega) (fun x hx => by
    simp only [List.mem_cons, List.not_mem_nil, or_false, or_self] at hx
    subst hx
    exact nc_bl)).repr (by omega) (by decide) (by subst hM; decide +kernel)
theorem in_body {n : Nat} {v : D} {ns : List Int} {b g : Bool} {ow : D} (h1 : d_is_play_for [.int (n : Nat), .lst (ns.map .int), v] = retM (.bl b)) (h2 : d_is_play_for [.int (n : Nat), .tup (ns.map .int), v] = retM (.bl b)) (h3 : (g = false ∧ b = false) ∨ (g = true ∧ dEqU false ow (.lst (ns.map .int)) = retM (.bl b))) (v0 v2 v3 v4 v5 v6 v7 v8 v9 v12 v15 v16 v17 : SV) (p : Pt) :
    ∃ w8 w15, inBody [v0, .val (.int (n : Nat)), v2, v3, v4, v5, v6, v7, v8, v9, .val v, .val (.bl g), v12, .val ow, .val (.lst (ns.map .int)), v15, v16, v17] p = some ((.nx, [v0, .val (.int (n : Nat)), v2, v3, v4, v5, v6, v7, w8, v9, .val v, .val (.bl g), v12, .val ow, .val (.lst (ns.map .int)), w15, v16, v17]), p) := by
  obtain ⟨t, ht⟩ := bools_text 23 rfl b
  have n1 := nequ_str t
  have hl : oListC [.lst (ns.map .int)] = retM (ns.map .int) := rfl
  have hc : cTup [.lst (ns.map .int)] = retM (.tup (ns.map .int)) := rfl
  unfold oListC at hl
  unfold inBody
  generalize ns.map D.int = L at *
  refine ⟨.val (.lst [.bl b, .bl b]), .val (.bl b), ?_⟩
  rcases h3 with ⟨rfl, rfl⟩ | ⟨rfl, h3⟩
  · simp [runD, env0, mSeq, mIfS, mNot, mB, mIsC, mVar, isC, mRet, mC, mTV, mAnd, mOr, mBin, mFld, dEqF, flV, retM, DL.bindM, mNx, mCall, lenM, mCons, mNil, mTup, mIsT, isT, mSet, mAsg, tgTup, tgCons, tgN, tgNil, mk_Ratio_1, mk_Ratio_2, mCallO, lenO, runO, mRetO, mLst, mIf, mUn, dNegI, mIsT2, mNoP, mPart, oListC, mDrop, mNever, hl, hc, h1, h2, mNew, pickM, pick, ht, n1]
  · simp [runD, env0, mSeq, mIfS, mNot, mB, mIsC, mVar, isC, mRet, mC, mTV, mAnd, mOr, mBin, mFld, dEqF, flV, retM, DL.bindM, mNx, mCall, lenM, mCons, mNil, mTup, mIsT, isT, mSet, mAsg, tgTup, tgCons, tgN, tgNil, mk_Ratio_1, mk_Ratio_2, mCallO, lenO, runO, mRetO, mLst, mIf, mUn, dNegI, mIsT2, mNoP, mPart, oListC, mDrop, mNever, hl, hc, h1, h2, h3, mNew, pickM, pick, ht, n1]
theorem out_body {n : Nat} (hn : isP n) {v : D} (hv : Nc 23 4 v) {dl ot : List Int} (hd : sortI dl = rngI (n * n)) (ho : sortI ot = rngI (n * n)) (v0 v2 v4 v5 v7 v8 v9 v11 v12 v13 v14 v15 v16 v17 s6 : SV) (h6 : s6 = .own (ot.map .int) ∨ s6 = .val (.lst (ot.map .int))) (p : Pt) :
    WP outBody [v0, .val (.int (n : Nat)), v2, .val (.lst (dl.map .int)), v4, v5, s6, v7, v8, v9, .val v, v11, v12, v13, v14, v15, v16, v17] p fun o e' p' => o = .nx ∧ p' = p ∧ ∃ w8 w11 w12 w13 w14 w15, e' = [v0, .val (.int (n : Nat)), v2, .val (.lst (dl.map .int)), v4, v5, .val (.lst (ot.map .int)), v7, w8, v9, .val v, w11, w12, w13, w14, w15, v16, v17] := by
  have hk := hv.kp (by decide)
  have h1 := play_law (p := n) hk
  have h2 := isplay_eq hn hk
  obtain ⟨t, h3⟩ := hv.repr (by decide) (by decide) (by decide +kernel)
  obtain ⟨u, h4⟩ := bools_text 23 rfl (playB n v)
  have n1 := nequ_str u
  have n2 := nequ_str t
  refine wp_seq (wp_par ⟨.bl (playB n v), .str t, p, ?_, rfl, ?_⟩)
  · simp [runD, env0, mSeq, mIfS, mNot, mB, mIsC, mVar, isC, mRet, mC, mTV, mAnd, mOr, mBin, mFld, dEqF, flV, retM, DL.bindM, mNx, mCall, lenM, mCons, mNil, mTup, mIsT, isT, mSet, mAsg, tgTup, tgCons, tgN, tgNil, mk_Ratio_1, mk_Ratio_2, mCallO, lenO, runO, mRetO, mLst, mIf, mUn, dNegI, mIsT2, mNoP, mPart, oListC, mDrop, mNever, h1, h3]
  refine wp_seq (wp_no ?_ ⟨rfl, ?_⟩)
  · funext q
    simp [runD, env0, mSeq, mIfS, mNot, mB, mIsC, mVar, isC, mRet, mC, mTV, mAnd, mOr, mBin, mFld, dEqF, flV, retM, DL.bindM, mNx, mCall, lenM, mCons, mNil, mTup, mIsT, isT, mSet, mAsg, tgTup, tgCons, tgN, tgNil, mk_Ratio_1, mk_Ratio_2, mCallO, lenO, runO, mRetO, mLst, mIf, mUn, dNegI, mIsT2, mNoP, mPart, oListC, mDrop, mNever, mNew, h2, pickM, pick, h4, n1]
  obtain ⟨ow, how, hyes⟩ : ∃ ow, (mIf (mB (mVar 11)) (mLst (mCallO (lenO 2 o__law_played) (mCons (mVar 1) (mCons (mVar 10) mNil)))) (mC .non)) [v0, .val (.int (n : Nat)), v2, .val (.lst (dl.map .int)), v4, v5, s6, v7, v8, v9, .val v, .val (.bl (playB n v)), .val (.str t), v13, v14, v15, v16, v17] = retM ow ∧ (playB n v = true → ∃ ms : List Mv, itemsD v = some (ms.map Mv.d) ∧ (∀ m ∈ ms, Good' n m) ∧ ms.length ≤ 1500 ∧ ow = .lst ((deal n ms).map .int)) := by
    cases hb : playB n v with
    | false => exact ⟨.non, by funext q; simp [runD, env0, mSeq, mIfS, mNot, mB, mIsC, mVar, isC, mRet, mC, mTV, mAnd, mOr, mBin, mFld, dEqF, flV, retM, DL.bindM, mNx, mCall, lenM, mCons, mNil, mTup, mIsT, isT, mSet, mAsg, tgTup, tgCons, tgN, tgNil, mk_Ratio_1, mk_Ratio_2, mCallO, lenO, runO, mRetO, mLst, mIf, mUn, dNegI, mIsT2, mNoP, mPart, oListC, mDrop, mNever], fun z => by cases z⟩
    | true =>
      obtain ⟨ms, hi, hg, hl⟩ := playB_inv hb
      have h5 := (played_eq hn hi hg).1
      exact ⟨.lst ((deal n ms).map .int), by funext q; simp [runD, env0, mSeq, mIfS, mNot, mB, mIsC, mVar, isC, mRet, mC, mTV, mAnd, mOr, mBin, mFld, dEqF, flV, retM, DL.bindM, mNx, mCall, lenM, mCons, mNil, mTup, mIsT, isT, mSet, mAsg, tgTup, tgCons, tgN, tgNil, mk_Ratio_1, mk_Ratio_2, mCallO, lenO, runO, mRetO, mLst, mIf, mUn, dNegI, mIsT2, mNoP, mPart, oListC, mDrop, mNever, h5], fun _ => ⟨ms, hi, hg, hl, rfl⟩⟩
  refine wp_seq (wp_set ⟨ow, p, congrFun how p, rfl, ?_⟩)
  have frz : ∀ {a : MS} {R : Out → Env' → Pt → Prop}, WP a [v0, .val (.int (n : Nat)), v2, .val (.lst (dl.map .int)), v4, v5, .val (.lst (ot.map .int)), v7, v8, v9, .val v, .val (.bl (playB n v)), .val (.str t), .val ow, v14, v15, v16, v17] p R → WP (mFrz 6 a) [v0, .val (.int (n : Nat)), v2, .val (.lst (dl.map .int)), v4, v5, s6, v7, v8, v9, .val v, .val (.bl (playB n v)), .val (.str t), .val ow, v14, v15, v16, v17] p R := by
    intro a R h
    rcases h6 with rfl | rfl
    · exact wp_frz rfl h
    · exact wp_frzV (d := .lst (ot.map .int)) rfl h
  refine frz ?_
  have all : ∀ ns : List Int, sortI ns = rngI (n * n) → ∃ b, d_is_play_for [.int (n : Nat), .lst (ns.map .int), v] = retM (.bl b) ∧ d_is_play_for [.int (n : Nat), .tup (ns.map .int), v] = retM (.bl b) ∧ ((playB n v = false ∧ b = false) ∨ (playB n v = true ∧ dEqU false ow (.lst (ns.map .int)) = retM (.bl b))) := by
    intro ns hns
    cases hb : playB n v with
    | false => exact ⟨false, playfor_no hn (dl := .lst (ns.map .int)) rfl hns hk hb, playfor_no hn (dl := .tup (ns.map .int)) rfl hns hk hb, .inl ⟨rfl, rfl⟩⟩
    | true =>
      obtain ⟨ms, hi, hg, hl, rfl⟩ := hyes hb
      have h5 := eq_ints false (deal n ms) ns
      rw [show (decide (deal n ms = ns) != false) = decide (deal n ms = ns) by cases decide (deal n ms = ns) <;> rfl] at h5
      exact ⟨_, playfor_yes hn (dl := .lst (ns.map .int)) rfl hns hi hg hl, playfor_yes hn (dl := .tup (ns.map .int)) rfl hns hi hg hl, .inr ⟨rfl, h5⟩⟩
  generalize playB n v = g at *
  clear hyes how h6 frz
  have hsq := sq_le hn.le
  have hmul := mulP n hn.le
  have hsrc : (srcL (mLst (mNew (mCons (mVar 3) (mCons (mVar 6) (mCons (mLst (oRg1 (mBin dMulI (mVar 1) (mVar 1)))) mNil)))))) [v0, .val (.int (n : Nat)), v2, .val (.lst (dl.map .int)), v4, v5, .val (.lst (ot.map .int)), v7, v8, v9, .val v, .val (.bl g), .val (.str t), .val ow, v14, v15, v16, v17] = retM [.lst (dl.map .int), .lst (ot.map .int), .lst ((rngI (n * n)).map .int)] := by
    have hr : oRg1 (mBin dMulI (mVar 1) (mVar 1)) [v0, .val (.int (n : Nat)), v2, .val (.lst (dl.map .int)), v4, v5, .val (.lst (ot.map .int)), v7, v8, v9, .val v, .val (.bl g), .val (.str t), .val ow, v14, v15, v16, v17] = retM ((rngI (n * n)).map .int) := rg1 (by funext q; simp [runD, env0, mSeq, mIfS, mNot, mB, mIsC, mVar, isC, mRet, mC, mTV, mAnd, mOr, mBin, mFld, dEqF, flV, retM, DL.bindM, mNx, mCall, lenM, mCons, mNil, mTup, mIsT, isT, mSet, mAsg, tgTup, tgCons, tgN, tgNil, mk_Ratio_1, mk_Ratio_2, mCallO, lenO, runO, mRetO, mLst, mIf, mUn, dNegI, mIsT2, mNoP, mPart, oListC, mDrop, mNever, hmul]) (by omega)
    generalize oRg1 (mBin dMulI (mVar 1) (mVar 1)) = rg at *
    funext q
    simp [runD, env0, mSeq, mIfS, mNot, mB, mIsC, mVar, isC, mRet, mC, mTV, mAnd, mOr, mBin, mFld, dEqF, flV, retM, DL.bindM, mNx, mCall, lenM, mCons, mNil, mTup, mIsT, isT, mSet, mAsg, tgTup, tgCons, tgN, tgNil, mk_Ratio_1, mk_Ratio_2, mCallO, lenO, runO, mRetO, mLst, mIf, mUn, dNegI, mIsT2, mNoP, mPart, oListC, mDrop, mNever, srcL, mNew, hr]
  refine wp_seq (wp_for (I := fun e q => q = p ∧ ∃ w8 w14 w15, e = [v0, .val (.int (n : Nat)), v2, .val (.lst (dl.map .int)), v4, v5, .val (.lst (ot.map .int)), v7, w8, v9, .val v, .val (.bl g), .val (.str t), .val ow, w14, w15, v16, v17]) ?_ ?_)
  · refine ⟨_, p, congrFun hsrc p, ⟨rfl, v8, v14, v15, rfl⟩, fun d hd e q hI => ?_⟩
    obtain ⟨rfl, w8, w14, w15, rfl⟩ := hI
    have hrs : sortI (rngI (n * n)) = rngI (n * n) := sortI_rng (List.Perm.refl _)
    obtain ⟨ns, rfl, hns⟩ : ∃ ns : List Int, d = .lst (ns.map .int) ∧ sortI ns = rngI (n * n) := by
      simp only [List.mem_cons, List.not_mem_nil, or_false] at hd
      rcases hd with rfl | rfl | rfl
      · exact ⟨dl, rfl, hd⟩
      · exact ⟨ot, rfl, ho⟩
      · exact ⟨_, rfl, hrs⟩
    obtain ⟨b, g1, g2, g3⟩ := all ns hns
    refine ⟨_, rfl, ?_⟩
    obtain ⟨u8, u15, e1⟩ := in_body g1 g2 g3 v0 v2 (.val (.lst (dl.map .int))) v4 v5 (.val (.lst (ot.map .int))) v7 w8 v9 (.val (.str t)) w15 v16 v17 q
    exact ⟨_, _, _, e1, rfl, rfl, u8, _, u15, rfl⟩
  · intro e q hI
    obtain ⟨rfl, w8, w14, w15, rfl⟩ := hI
    refine ⟨rfl, wp_no ?_ ⟨rfl, rfl, w8, _, _, _, w14, w15, rfl⟩⟩
    funext q
    simp [runD, env0, mSeq, mIfS, mNot, mB, mIsC, mVar, isC, mRet, mC, mTV, mAnd, mOr, mBin, mFld, dEqF, flV, retM, DL.bindM, mNx, mCall, lenM, mCons, mNil, mTup, mIsT, isT, mSet, mAsg, tgTup, tgCons, tgN, tgNil, mk_Ratio_1, mk_Ratio_2, mCallO, lenO, runO, mRetO, mLst, mIf, mUn, dNegI, mIsT2, mNoP, mPart, oListC, mDrop, mNever, h3, n2]
end Q
end

section
set_option Elab.async false
set_option linter.all false
set_option maxRecDepth 100000
set_option maxHeartbeats 4000000
set_option exponentiation.threshold 20000
/-! k42: the law on plays. -/
namespace Q
open DL PySem PyProof.Rows
/-! ### moves undone -/
def invP (p : Nat) (c : Int) : Int := (((List.range p).map fun k => ((k : Nat) : Int)).find? fun k => decide ((k * c) % (p : Int) = 1)).getD 0
def und (p : Nat) : Mv → Mv
  | .turn c => .turn (invP p c)
  | .col _ xs => .col false (xs.map fun x => ((p : Int) - x) % (p : Int))
  | .row _ xs => .row false (xs.map fun x => ((p : Int) - x) % (p : Int))
theorem inv_good {p : Nat} (hp : isP p) {c : Int} (h1 : 1 ≤ c) (h2 : c ≤ (p : Int) - 1) : 1 ≤ invP p c ∧ invP p c ≤ (p : Int) - 1 ∧ (invP p c * c) % (p : Int) = 1 := by
  rcases hp with rfl | rfl | rfl | rfl
  · have : c = 1 ∨ c = 2 := by omega
    rcases this with rfl | rfl <;> decide +kernel
  · have : c = 1 ∨ c = 2 ∨ c = 3 ∨ c = 4 := by omega
    rcases this with rfl | rfl | rfl | rfl <;> decide +kernel
  · have : c = 1 ∨ c = 2 ∨ c = 3 ∨ c = 4 ∨ c = 5 ∨ c = 6 := by omega
    rcases this with rfl | rfl | rfl | rfl | rfl | rfl <;> decide +kernel
  · have : c = 1 ∨ c = 2 ∨ c = 3 ∨ c = 4 ∨ c = 5 ∨ c = 6 ∨ c = 7 ∨ c = 8 ∨ c = 9 ∨ c = 10 := by omega
    rcases this with rfl | rfl | rfl | rfl | rfl | rfl | rfl | rfl | rfl | rfl <;> decide +kernel
theorem und_gl {p : Nat} (hp : isP p) {xs : List Int} (h : Gl p xs) : Gl p (xs.map fun x => ((p : Int) - x) % (p : Int)) := by
  have := hp.pos
  refine ⟨by rw [List.length_map]; exact h.1, fun y hy => ?_⟩
  obtain ⟨x, _, rfl⟩ := List.mem_map.mp hy
  have h1 := Int.emod_nonneg ((p : Int) - x) (show (p : Int) ≠ 0 by omega)
  have h2 := Int.emod_lt_of_pos ((p : Int) - x) (show 0 < (p : Int) by omega)
  exact ⟨h1, by omega⟩
theorem und_good {p : Nat} (hp : isP p) {m : Mv} (h : Good' p m) : Good' p (und p m) := by
  cases m with
  | turn c =>
    have := inv_good hp h.1 h.2
    exact ⟨this.1, this.2.1⟩
  | col tp xs => exact und_gl hp h
  | row tp xs => exact und_gl hp h
theorem und_comp {p : Nat} (hp : isP p) {tp : Bool} {xs : List Int} (h : Gl p xs) (env : Env') (h0 : ∀ d, (env.set 5 (.val d))[0]? = some (.val (.int (p : Nat)))) (h5 : ∀ d, (env.set 5 (.val d))[5]? = some (.val d)) : compM (tgN 5) mYes (mBin dModI (mCall cInt (mCons (mBin dSubI (mVar 0) (mVar 5)) mNil)) (mVar 0)) env (xs.map D.int) = retM ((xs.map fun x => ((p : Int) - x) % (p : Int)).map D.int) := by
  rw [List.map_map]
  refine comp_map fun x _ => ?_
  have a0 := h0 (.int x)
  have a5 := h5 (.int x)
  have md := mod_small (i := (p : Int) - x) hp
  generalize env.set 5 (.val (.int x)) = env' at *
  funext q
  simp [runD, env0, mSeq, mIfS, mNot, mB, mIsC, mVar, isC, mRet, mC, mTV, mAnd, mOr, mBin, mFld, dEqF, flV, retM, DL.bindM, mNx, mCall, lenM, mCons, mNil, mTup, mIsT, isT, mSet, mAsg, tgTup, tgCons, tgN, tgNil, mk_Ratio_1, mk_Ratio_2, mCallO, lenO, runO, mRetO, mLst, mIf, mUn, dNegI, mIsT2, mNoP, mPart, oListC, mDrop, mNever, a0, a5, dSubI, dII, cInt, md]
theorem undone_eq {p : Nat} (hp : isP p) {m : Mv} (h : Good' p m) : d__law_undone [.int (p : Nat), m.d] = retM (und p m).d := by
  have hle := hp.le
  cases m with
  | turn c =>
    obtain ⟨h1, h2⟩ := h
    rcases hp with rfl | rfl | rfl | rfl
    · have : c = 1 ∨ c = 2 := by omega
      rcases this with rfl | rfl <;> (funext q; rfl)
    · have : c = 1 ∨ c = 2 ∨ c = 3 ∨ c = 4 := by omega
      rcases this with rfl | rfl | rfl | rfl <;> (funext q; rfl)
    · have : c = 1 ∨ c = 2 ∨ c = 3 ∨ c = 4 ∨ c = 5 ∨ c = 6 := by omega
      rcases this with rfl | rfl | rfl | rfl | rfl | rfl <;> (funext q; rfl)
    · have : c = 1 ∨ c = 2 ∨ c = 3 ∨ c = 4 ∨ c = 5 ∨ c = 6 ∨ c = 7 ∨ c = 8 ∨ c = 9 ∨ c = 10 := by omega
      rcases this with rfl | rfl | rfl | rfl | rfl | rfl | rfl | rfl | rfl | rfl <;> (funext q; rfl)
  | col tp xs =>
    have t2 := turn_n1
    have hl : xs.length ≤ 100000 := by have := h.1; omega
    have hs : srcS (mVar 3) [.val (.int (p : Nat)), .val (.tup [.str "y", seqD tp xs]), .val (.str "y"), .val (seqD tp xs), .un, .un] = retM (xs.map .int) := src_items (seq_items tp xs) rfl
    have hc := und_comp hp (tp := tp) h [.val (.int (p : Nat)), .val (.tup [.str "y", seqD tp xs]), .val (.str "y"), .val (seqD tp xs), .un, .un] (fun _ => rfl) (fun _ => rfl)
    show d__law_undone [.int (p : Nat), .tup [.str "y", seqD tp xs]] = retM (.tup [.str "y", seqD false (xs.map fun x => ((p : Int) - x) % (p : Int))])
    simp only [d__law_undone, m__law_undone, runD, env0]
    generalize mBin dModI (mCall cInt (mCons (mBin dSubI (mVar 0) (mVar 5)) mNil)) (mVar 0) = el at *
    generalize dEqF = eqf at *
    generalize seqD tp xs = sd at *
    generalize srcS (mVar 3) = sr at *
    unfold seqD
    funext q
    simp [runD, env0, mSeq, mIfS, mNot, mB, mIsC, mVar, isC, mRet, mC, mTV, mAnd, mOr, mBin, mFld, dEqF, flV, retM, DL.bindM, mNx, mCall, lenM, mCons, mNil, mTup, mIsT, isT, mSet, mAsg, tgTup, tgCons, tgN, tgNil, mk_Ratio_1, mk_Ratio_2, mCallO, lenO, runO, mRetO, mLst, mIf, mUn, dNegI, mIsT2, mNoP, mPart, oListC, mDrop, mNever, t2, mLc, hs, hl, wipeE, hc]

  | row tp xs =>
    have t2 := turn_n2
    have hl : xs.length ≤ 100000 := by have := h.1; omega
    have hs : srcS (mVar 3) [.val (.int (p : Nat)), .val (.tup [.str "x", seqD tp xs]), .val (.str "x"), .val (seqD tp xs), .un, .un] = retM (xs.map .int) := src_items (seq_items tp xs) rfl
    have hc := und_comp hp (tp := tp) h [.val (.int (p : Nat)), .val (.tup [.str "x", seqD tp xs]), .val (.str "x"), .val (seqD tp xs), .un, .un] (fun _ => rfl) (fun _ => rfl)
    show d__law_undone [.int (p : Nat), .tup [.str "x", seqD tp xs]] = retM (.tup [.str "x", seqD false (xs.map fun x => ((p : Int) - x) % (p : Int))])
    simp only [d__law_undone, m__law_undone, runD, env0]
    generalize mBin dModI (mCall cInt (mCons (mBin dSubI (mVar 0) (mVar 5)) mNil)) (mVar 0) = el at *
    generalize dEqF = eqf at *
    generalize seqD tp xs = sd at *
    generalize srcS (mVar 3) = sr at *
    unfold seqD
    funext q
    simp [runD, env0, mSeq, mIfS, mNot, mB, mIsC, mVar, isC, mRet, mC, mTV, mAnd, mOr, mBin, mFld, dEqF, flV, retM, DL.bindM, mNx, mCall, lenM, mCons, mNil, mTup, mIsT, isT, mSet, mAsg, tgTup, tgCons, tgN, tgNil, mk_Ratio_1, mk_Ratio_2, mCallO, lenO, runO, mRetO, mLst, mIf, mUn, dNegI, mIsT2, mNoP, mPart, oListC, mDrop, mNever, t2, mLc, hs, hl, wipeE, hc]

end Q
end

section
set_option Elab.async false
set_option linter.all false
set_option maxRecDepth 100000
set_option maxHeartbeats 4000000
set_option exponentiation.threshold 20000
/-! k42: the law on plays. -/
namespace Q
open DL PySem PyProof.Rows
theorem wp_par3 {env : Env'} {p : Pt} {R : Out → Env' → Pt → Prop} {i j l : Nat} {m : Env' → Mo (List D)} (h : ∃ d e f p', m env p = some ([d, e, f], p') ∧ R .nx (((env.set i (.val d)).set j (.val e)).set l (.val f)) p') : WP (mPar3 i j l m) env p R := by
  obtain ⟨d, e, f, p', h1, r⟩ := h
  refine ⟨_, _, _, ?_, r⟩
  unfold mPar3
  simp [runD, env0, mSeq, mIfS, mNot, mB, mIsC, mVar, isC, mRet, mC, mTV, mAnd, mOr, mBin, mFld, dEqF, flV, retM, DL.bindM, mNx, mCall, lenM, mCons, mNil, mTup, mIsT, isT, mSet, mAsg, tgTup, tgCons, tgN, tgNil, mk_Ratio_1, mk_Ratio_2, mCallO, lenO, runO, mRetO, mLst, mIf, mUn, dNegI, mIsT2, mNoP, mPart, oListC, mDrop, mNever, h1]
theorem wp_parOV {env : Env'} {p : Pt} {R : Out → Env' → Pt → Prop} {i j : Nat} {oa : Env' → Mo (List D)} {mb : Env' → Mo D} (hi : i < env.length) (h : ∃ ds p1 d p', oa env p = some (ds, p1) ∧ mb env p1 = some (d, p') ∧ R .nx ((env.set i (.own ds)).set j (.val d)) p') : WP (mParOV i j oa mb) env p R := by
  obtain ⟨ds, p1, d, p', h1, h2, r⟩ := h
  refine ⟨_, _, _, ?_, r⟩
  unfold mParOV
  simp [runD, env0, mSeq, mIfS, mNot, mB, mIsC, mVar, isC, mRet, mC, mTV, mAnd, mOr, mBin, mFld, dEqF, flV, retM, DL.bindM, mNx, mCall, lenM, mCons, mNil, mTup, mIsT, isT, mSet, mAsg, tgTup, tgCons, tgN, tgNil, mk_Ratio_1, mk_Ratio_2, mCallO, lenO, runO, mRetO, mLst, mIf, mUn, dNegI, mIsT2, mNoP, mPart, oListC, mDrop, mNever, h1, h2, hi]
theorem evl_compS {src e : Env' → Mo D} {so : Env' → Mo (List D)} {env : Env'} {i : Nat} {ds : List D} {Q : D → Prop} {k : Nat} (hs : so env = retM ds) (hl : ds.length ≤ k) (hk : k ≤ 100000) (he : ∀ d ∈ ds, ∃ y, e ((wipeE env [i]).set i (.val d)) = retM y ∧ Q y) : EvL (mLc so [i] (tgN i) mYes e) env Q k := by
  have key : ∀ ds : List D, (∀ d ∈ ds, ∃ y, e ((wipeE env [i]).set i (.val d)) = retM y ∧ Q y) → ∃ ys, compM (tgN i) mYes e (wipeE env [i]) ds = retM ys ∧ (∀ y ∈ ys, Q y) ∧ ys.length = ds.length := by
    intro ds
    induction ds with
    | nil => exact fun _ => ⟨[], rfl, (fun _ h => nomatch h), rfl⟩
    | cons d ds ih =>
      intro h
      obtain ⟨y, e1, q1⟩ := h d List.mem_cons_self
      obtain ⟨ys, e2, q2, l2⟩ := ih fun d' hd' => h d' (List.mem_cons_of_mem _ hd')
      refine ⟨y :: ys, ?_, fun x hx => ?_, by rw [List.length_cons, List.length_cons, l2]⟩
      · unfold compM
        show DL.bindM (mYes _) _ = _
        rw [show mYes ((wipeE env [i]).set i (.val d)) = retM true from rfl, bindM_ret, if_pos rfl, e1, bindM_ret, e2]
        rfl
      · rcases List.mem_cons.mp hx with rfl | hx
        · exact q1
        · exact q2 x hx
  obtain ⟨ys, e1, q1, l1⟩ := key ds he
  refine ⟨ys, ?_, q1, by omega⟩
  unfold mLc
  rw [hs, bindM_ret, if_pos (by omega)]
  exact e1
theorem mvs_of {n : Nat} : ∀ {ds : List D}, (∀ d ∈ ds, ∃ m, d = Mv.d m ∧ Good' n m) → ∃ ms : List Mv, ds = ms.map Mv.d ∧ ∀ m ∈ ms, Good' n m
  | [], _ => ⟨[], rfl, fun _ h => nomatch h⟩
  | d :: ds, h => by
    obtain ⟨m, rfl, hm⟩ := h d List.mem_cons_self
    obtain ⟨ms, rfl, hms⟩ := mvs_of fun e he => h e (List.mem_cons_of_mem _ he)
    refine ⟨m :: ms, rfl, fun m' hm' => ?_⟩
    rcases List.mem_cons.mp hm' with rfl | hm'
    · exact hm
    · exact hms m' hm'
theorem mv_nc {n : Nat} (hn : isP n) {m : Mv} (h : Good' n m) : Nc 23 2 m.d := by
  have hle := hn.le
  have sq : ∀ (w : Str) (tp : Bool) (xs : List Int), (reprText w).length ≤ 24 → Gl n xs → Nc 23 2 (.tup [.str w, seqD tp xs]) := fun w tp xs hw hG => by
    refine .tup (by show 2 ≤ 23; decide) fun d hd => ?_
    simp only [List.mem_cons, List.not_mem_nil, or_false] at hd
    rcases hd with rfl | rfl
    · exact nc_str hw
    · have hx : ∀ d ∈ xs.map D.int, Nc 23 0 d := int_nc hG.2 (by omega)
      have hl : (xs.map D.int).length ≤ 23 := by rw [List.length_map]; have := hG.1; omega
      unfold seqD
      cases tp
      · exact .lst hl hx
      · exact .tup hl hx
  cases m with
  | turn c =>
    obtain ⟨h1, h2⟩ := h
    refine .tup (by show 2 ≤ 23; decide) fun d hd => ?_
    simp only [List.mem_cons, List.not_mem_nil, or_false] at hd
    rcases hd with rfl | rfl
    · exact nc_str (by decide +kernel)
    · exact nc_small (by omega) (by omega)
  | col tp xs => exact sq "y" tp xs (by decide +kernel) h
  | row tp xs => exact sq "x" tp xs (by decide +kernel) h
theorem law_plays {n : Nat} (hn : isP n) {p : Pt} (hp : Good p) : ∃ p', d__law_plays_right [.pot, .int (n : Nat)] p = some (.bl true, p') ∧ Good p' := by
  have hle := hn.le
  have hpos := hn.pos
  have hsq := sq_le hle
  have hsq0 : 3 * 3 ≤ n * n := Nat.mul_le_mul hpos hpos
  have hmul := mulP n hle
  obtain ⟨N, hN⟩ : ∃ N : Nat, N = n * n := ⟨_, rfl⟩
  rw [← hN] at hsq hsq0 hmul
  suffices h : ∃ d p', d__law_plays_right [.pot, .int (n : Nat)] p = some (d, p') ∧ d = .bl true ∧ Good p' by
    obtain ⟨d, p', e, rfl, g⟩ := h
    exact ⟨p', e, g⟩
  refine run_wp (S := fun d p' => d = .bl true ∧ Good p') ?_
  obtain ⟨r, p1, e1, r1, r2, g1⟩ := law_draw hp (many := 9) (by omega) (by omega)
  obtain ⟨k, rfl⟩ := Int.eq_ofNat_of_zero_le r1
  obtain ⟨ds, p2, e2, q2, l2, g2⟩ := comp_n (Q := fun d => ∃ m, d = Mv.d m ∧ Good' n m) (i := 16) (e := mCall (lenM 2 d__law_move) (mCons (mVar 0) (mCons (mVar 1) mNil))) (env := [.val .pot, .val (.int (n : Nat)), .un, .un, .un, .un, .un, .un, .un, .un, .un, .un, .un, .un, .un, .un, .un, .un]) k (fun d p hp => by
    obtain ⟨m, p', e, hm, g⟩ := law_move hn hp
    exact ⟨m.d, p', by simp [runD, env0, mSeq, mIfS, mNot, mB, mIsC, mVar, isC, mRet, mC, mTV, mAnd, mOr, mBin, mFld, dEqF, flV, retM, DL.bindM, mNx, mCall, lenM, mCons, mNil, mTup, mIsT, isT, mSet, mAsg, tgTup, tgCons, tgN, tgNil, mk_Ratio_1, mk_Ratio_2, mCallO, lenO, runO, mRetO, mLst, mIf, mUn, dNegI, mIsT2, mNoP, mPart, oListC, mDrop, mNever, e], ⟨m, rfl, hm⟩, g⟩) g1
  obtain ⟨ms, rfl, hg⟩ := mvs_of q2
  rw [List.length_map] at l2
  clear q2
  refine wp_seq (wp_setO (by show 2 < 18; decide) ⟨ms.map Mv.d, p2, ?_, rfl, ?_⟩)
  · have b1 : (-1000000 : Int) ≤ (k : Int) := by omega
    have b2 : (k : Int) ≤ 1000000 := by omega
    have b3 : (rngD 0 k).length ≤ 100000 := by rw [rngD_len]; omega
    show (mLc (srcR1 (mCons (mCall (lenM 2 d__law_draw) (mCons (mVar 0) (mCons (mC (.int 9)) mNil))) mNil)) [16] (tgN 16) mYes (mCall (lenM 2 d__law_move) (mCons (mVar 0) (mCons (mVar 1) mNil)))) [.val .pot, .val (.int (n : Nat)), .un, .un, .un, .un, .un, .un, .un, .un, .un, .un, .un, .un, .un, .un, .un, .un] p = _
    generalize mCall (lenM 2 d__law_move) (mCons (mVar 0) (mCons (mVar 1) mNil)) = el at *
    simp [runD, env0, mSeq, mIfS, mNot, mB, mIsC, mVar, isC, mRet, mC, mTV, mAnd, mOr, mBin, mFld, dEqF, flV, retM, DL.bindM, mNx, mCall, lenM, mCons, mNil, mTup, mIsT, isT, mSet, mAsg, tgTup, tgCons, tgN, tgNil, mk_Ratio_1, mk_Ratio_2, mCallO, lenO, runO, mRetO, mLst, mIf, mUn, dNegI, mIsT2, mNoP, mPart, oListC, mDrop, mNever, mLc, srcR1, e1, b1, b2, b3, wipeE, e2]
  refine wp_frz rfl ?_
  obtain ⟨play, hplay⟩ : ∃ L, L = ms.map Mv.d := ⟨_, rfl⟩
  have hi : itemsD (.lst play) = some (ms.map Mv.d) := by rw [hplay]; rfl
  have hpn : ∀ d ∈ play, Nc 23 2 d := fun d hd => by
    rw [hplay] at hd
    obtain ⟨m, hm, rfl⟩ := List.mem_map.mp hd
    exact mv_nc hn (hg m hm)
  have hpl : play.length ≤ 8 := by rw [hplay, List.length_map]; omega
  rw [← hplay]
  have hdl := (played_eq hn hi hg).1
  have hperm := deal_perm hn hg
  obtain ⟨dl, hdle⟩ : ∃ dl, dl = deal n ms := ⟨_, rfl⟩
  have hplayed := playdeal_eq hn hi hg (by omega)
  have hplayed2 := playdeal_eq hn (v := .tup play) (by rw [hplay]; rfl) hg (by omega)
  rw [← hdle] at hdl hperm hplayed hplayed2
  have hsd : sortI dl = rngI (n * n) := sortI_rng hperm
  have hdlen : dl.length = N := by rw [hN]; exact deal_len hsd
  have hdb : ∀ x ∈ dl, 0 ≤ x ∧ x ≤ 121 := fun x hx => by
    have := rngI_mem (hperm.mem_iff.mp hx)
    rw [← hN] at this
    omega
  obtain ⟨at_, p3, e3, a1, a2, g3⟩ := law_draw g2 (many := (N : Int)) (by omega) (by omega)
  obtain ⟨f0, p4, e4, b1, b2, g4⟩ := law_draw g3 (many := (N : Int) - 1) (by omega) (by omega)
  refine wp_seq (wp_par3 ⟨.lst (dl.map .int), .int at_, .int (1 + f0), p4, ?_, rfl, ?_⟩)
  · show (mCons (mLst (mCallO (lenO 2 o__law_played) (mCons (mVar 1) (mCons (mVar 2) mNil)))) (mCons (mCall (lenM 2 d__law_draw) (mCons (mVar 0) (mCons (mBin dMulI (mVar 1) (mVar 1)) mNil))) (mCons (mBin dAddI (mC (.int 1)) (mCall (lenM 2 d__law_draw) (mCons (mVar 0) (mCons (mBin dSubI (mBin dMulI (mVar 1) (mVar 1)) (mC (.int 1))) mNil)))) mNil))) [.val .pot, .val (.int (n : Nat)), .val (.lst play), .un, .un, .un, .un, .un, .un, .un, .un, .un, .un, .un, .un, .un, .un, .un] p2 = _
    simp [runD, env0, mSeq, mIfS, mNot, mB, mIsC, mVar, isC, mRet, mC, mTV, mAnd, mOr, mBin, mFld, dEqF, flV, retM, DL.bindM, mNx, mCall, lenM, mCons, mNil, mTup, mIsT, isT, mSet, mAsg, tgTup, tgCons, tgN, tgNil, mk_Ratio_1, mk_Ratio_2, mCallO, lenO, runO, mRetO, mLst, mIf, mUn, dNegI, mIsT2, mNoP, mPart, oListC, mDrop, mNever, hdl, hmul, e3, dSubI, dAddI, dII, e4]
  obtain ⟨i, rfl⟩ := Int.eq_ofNat_of_zero_le a1
  obtain ⟨j, hj⟩ : ∃ j : Nat, ((i : Int) + (1 + f0)) % (N : Int) = (j : Int) := Int.eq_ofNat_of_zero_le (Int.emod_nonneg _ (by omega))
  have hjl : j < N := by
    have := Int.emod_lt_of_pos ((i : Int) + (1 + f0)) (show 0 < (N : Int) by omega)
    omega
  have hil : i < N := by omega
  have hij : i ≠ j := by
    intro z
    subst z
    by_cases hc : (i : Int) + (1 + f0) < (N : Int)
    · rw [Int.emod_eq_of_lt (by omega) hc] at hj
      omega
    · have : ((i : Int) + (1 + f0) - (N : Int)) % (N : Int) = (i : Int) := by rw [Int.sub_emod_right]; exact hj
      rw [Int.emod_eq_of_lt (by omega) (by omega)] at this
      omega
  refine wp_seq (wp_parOV (by show 6 < 18; decide) ⟨dl.map .int, p4, .int (j : Nat), p4, rfl, ?_, rfl, ?_⟩)
  · show (mBin dModI (mCall cInt (mCons (mBin dAddI (mVar 4) (mVar 5)) mNil)) (mBin dMulI (mVar 1) (mVar 1))) [.val .pot, .val (.int (n : Nat)), .val (.lst play), .val (.lst (dl.map .int)), .val (.int (i : Nat)), .val (.int (1 + f0)), .un, .un, .un, .un, .un, .un, .un, .un, .un, .un, .un, .un] p4 = _
    have hm : dModI (.int ((i : Int) + (1 + f0))) (.int (N : Int)) = retM (.int (j : Nat)) := by
      have h0 : (0 : Int) < (N : Int) := by omega
      show (if decide ((0 : Int) < (N : Int)) = true then retM (D.int (((i : Int) + (1 + f0)) % (N : Int))) else failM) = _
      rw [if_pos (decide_eq_true h0), hj]
    simp only [mBin, mVar, List.getElem?_cons_succ, List.getElem?_cons_zero, bindM_ret, mCall, mCons, mNil, dAddI, dII, cInt, hmul, hm, if_true]
    rfl
  have hi' : i < dl.length := by omega
  have hj' : j < dl.length := by omega
  refine wp_seq ?_
  obtain ⟨ot, hot⟩ : ∃ ot, ot = (dl.set i dl[j]).set j dl[i] := ⟨_, rfl⟩
  have hswap : WP (mSwap 6 4 7 (mTup (mCons (mBin atD (mVar 3) (mVar 7)) (mCons (mBin atD (mVar 3) (mVar 4)) mNil)))) [.val .pot, .val (.int (n : Nat)), .val (.lst play), .val (.lst (dl.map .int)), .val (.int (i : Nat)), .val (.int (1 + f0)), .own (dl.map .int), .val (.int (j : Nat)), .un, .un, .un, .un, .un, .un, .un, .un, .un, .un] p4 fun o e' p' => o = .nx ∧ p' = p4 ∧ e' = [.val .pot, .val (.int (n : Nat)), .val (.lst play), .val (.lst (dl.map .int)), .val (.int (i : Nat)), .val (.int (1 + f0)), .own (ot.map .int), .val (.int (j : Nat)), .un, .un, .un, .un, .un, .un, .un, .un, .un, .un] := by
    have x1 : atD (.lst (dl.map .int)) (.int (j : Nat)) = retM (.int dl[j]) := at_lst (by rw [List.getElem?_map, List.getElem?_eq_getElem hj']; rfl)
    have x2 : atD (.lst (dl.map .int)) (.int (i : Nat)) = retM (.int dl[i]) := at_lst (by rw [List.getElem?_map, List.getElem?_eq_getElem hi']; rfl)
    have y1 : L2.ixN (dl.map D.int).length (i : Int) = some i := ixN_nat (by rw [List.length_map]; exact hi')
    have y2 : L2.ixN (dl.map D.int).length (j : Int) = some j := ixN_nat (by rw [List.length_map]; exact hj')
    have z : ((dl.map D.int).set i (.int dl[j])).set j (.int dl[i]) = ot.map D.int := by
      rw [hot, List.map_set, List.map_set]
    generalize dl.map D.int = DL0 at *
    refine ⟨_, _, _, ?_, rfl, rfl, rfl⟩
    simp [runD, env0, mSeq, mIfS, mNot, mB, mIsC, mVar, isC, mRet, mC, mTV, mAnd, mOr, mBin, mFld, dEqF, flV, retM, DL.bindM, mNx, mCall, lenM, mCons, mNil, mTup, mIsT, isT, mSet, mAsg, tgTup, tgCons, tgN, tgNil, mk_Ratio_1, mk_Ratio_2, mCallO, lenO, runO, mRetO, mLst, mIf, mUn, dNegI, mIsT2, mNoP, mPart, oListC, mDrop, mNever, mSwap, x1, x2, y1, y2, z]
  obtain ⟨o, e', p', hw1, rfl, rfl, rfl⟩ := hswap
  refine ⟨.nx, _, _, hw1, rfl, ?_⟩
  have hso : sortI ot = rngI (n * n) := sortI_rng ((by rw [hot]; exact List.set_set_perm hi' hj' : ot.Perm dl).trans hperm)
  have hotb : ∀ x ∈ ot, 0 ≤ x ∧ x ≤ 121 := fun x hx => by
    have h9 : x ∈ sortI ot := (sortI_perm ot).mem_iff.mpr hx
    rw [hso] at h9
    have := rngI_mem h9
    rw [← hN] at this
    omega
  clear hw1 e1 e2 e3 e4
  refine wp_frzV (d := .lst play) rfl ?_
  refine wp_seq (wp_set ⟨.lst [.lst (dl.map .int), .lst (dl.map .int)], p', ?_, rfl, ?_⟩)
  · show (mLst (mNew (mCons (mCall (lenM 2 d_play_deal) (mCons (mVar 1) (mCons (mLst (mCallO oListC (mCons (mVar 2) mNil))) mNil))) (mCons (mCall (pickM 2 [1, 0] d_play_deal) (mCons (mCall cTup (mCons (mVar 2) mNil)) (mCons (mVar 1) mNil))) mNil)))) [.val .pot, .val (.int (n : Nat)), .val (.lst play), .val (.lst (dl.map .int)), .val (.int (i : Nat)), .val (.int (1 + f0)), .own (ot.map .int), .val (.int (j : Nat)), .un, .un, .un, .un, .un, .un, .un, .un, .un, .un] p' = _
    have h7 : oListC [.lst play] = retM play := rfl
    have h8 : cTup [.lst play] = retM (.tup play) := rfl
    unfold oListC at h7
    simp [runD, env0, mSeq, mIfS, mNot, mB, mIsC, mVar, isC, mRet, mC, mTV, mAnd, mOr, mBin, mFld, dEqF, flV, retM, DL.bindM, mNx, mCall, lenM, mCons, mNil, mTup, mIsT, isT, mSet, mAsg, tgTup, tgCons, tgN, tgNil, mk_Ratio_1, mk_Ratio_2, mCallO, lenO, runO, mRetO, mLst, mIf, mUn, dNegI, mIsT2, mNoP, mPart, oListC, mDrop, mNever, h7, h8, hplayed, hplayed2, mNew, pickM, pick]
  obtain ⟨t, ht⟩ := (show Nc 250 2 (.lst [.lst (dl.map .int), .lst (dl.map .int)]) from .lst (by show 2 ≤ 250; decide) (fun x hx => by
    simp only [List.mem_cons, List.not_mem_nil, or_false, or_self] at hx
    subst hx
    exact .lst (by rw [List.length_map]; omega) (int_nc hdb (by decide)))).repr (by decide) (by decide) (by decide +kernel)
  have n1 := nequ_str t
  refine wp_seq (wp_no ?_ ⟨rfl, ?_⟩)
  · funext q
    simp [runD, env0, mSeq, mIfS, mNot, mB, mIsC, mVar, isC, mRet, mC, mTV, mAnd, mOr, mBin, mFld, dEqF, flV, retM, DL.bindM, mNx, mCall, lenM, mCons, mNil, mTup, mIsT, isT, mSet, mAsg, tgTup, tgCons, tgN, tgNil, mk_Ratio_1, mk_Ratio_2, mCallO, lenO, runO, mRetO, mLst, mIf, mUn, dNegI, mIsT2, mNoP, mPart, oListC, mDrop, mNever, mNew, ht, n1]
  refine wp_frzV (d := .lst play) rfl ?_
  show WP _ [.val .pot, .val (.int (n : Nat)), .val (.lst play), .val (.lst (dl.map .int)), .val (.int (i : Nat)), .val (.int (1 + f0)), .own (ot.map .int), .val (.int (j : Nat)), .val (.lst [.lst (dl.map .int), .lst (dl.map .int)]), .un, .un, .un, .un, .un, .un, .un, .un, .un] p' _
  obtain ⟨E, hE⟩ : ∃ E : SV → Env', E = fun v9 : SV => ([.val .pot, .val (.int (n : Nat)), .val (.lst play), .val (.lst (dl.map .int)), .val (.int (i : Nat)), .val (.int (1 + f0)), .own (ot.map .int), .val (.int (j : Nat)), .val (.lst [.lst (dl.map .int), .lst (dl.map .int)]), v9, .un, .un, .un, .un, .un, .un, .un, .un] : Env') := ⟨_, rfl⟩
  have playv : ∀ (v9 : SV) (k : Nat), EvD (mVar 2) (E v9) (Nc 23 (k + 2)) 8 := fun v9 k => by rw [hE]; exact evd_var rfl (fun d hd => by rw [Nat.add_comm]; exact (hpn d hd).upn k) hpl
  have playb : ∀ (v9 : SV) (k : Nat), EvD (mVarB 2) (E v9) (Nc 23 (k + 2)) 8 := fun v9 k => by rw [hE]; exact evd_varB rfl (fun d hd => by rw [Nat.add_comm]; exact (hpn d hd).upn k) hpl
  have m1 : ∀ env : Env', EvP (mPart (mUn dNegI (mC (.int 1)))) env := fun env => evp_of (i := -1) rfl
  have p1_ : ∀ env : Env', EvP (mPart (mC (.int 1))) env := fun env => evp_of (i := 1) rfl
  have rep : ∀ (v9 : SV) (k : Nat), EvL (oRep (mLst (mNew (mCons (mC (.int 0)) mNil))) (mVar 1)) (E v9) (Nc 23 k) 11 := fun v9 k => by
    refine ⟨repD [.int 0] n, ?_, fun d hd => ?_, ?_⟩
    · have h1 : (n : Int) ≤ 100000 ∧ (-100000 : Int) ≤ (n : Int) := by omega
      have h2 : n ≤ 100000 := by omega
      rw [hE]
      funext q
      simp [runD, env0, mSeq, mIfS, mNot, mB, mIsC, mVar, isC, mRet, mC, mTV, mAnd, mOr, mBin, mFld, dEqF, flV, retM, DL.bindM, mNx, mCall, lenM, mCons, mNil, mTup, mIsT, isT, mSet, mAsg, tgTup, tgCons, tgN, tgNil, mk_Ratio_1, mk_Ratio_2, mCallO, lenO, runO, mRetO, mLst, mIf, mUn, dNegI, mIsT2, mNoP, mPart, oListC, mDrop, mNever, oRep, mNew, h1, h2]
    · unfold repD at hd
      obtain ⟨l, hl, hd⟩ := List.mem_flatten.mp hd
      rw [(List.mem_replicate.mp hl).2, List.mem_singleton] at hd
      subst hd
      exact nc_small (by decide) (by decide)
    · unfold repD
      have : ((List.replicate n [D.int 0]).flatten).length = n := by
        rw [List.length_flatten, List.map_replicate, List.sum_replicate_nat]
        simp [runD, env0, mSeq, mIfS, mNot, mB, mIsC, mVar, isC, mRet, mC, mTV, mAnd, mOr, mBin, mFld, dEqF, flV, retM, DL.bindM, mNx, mCall, lenM, mCons, mNil, mTup, mIsT, isT, mSet, mAsg, tgTup, tgCons, tgN, tgNil, mk_Ratio_1, mk_Ratio_2, mCallO, lenO, runO, mRetO, mLst, mIf, mUn, dNegI, mIsT2, mNoP, mPart, oListC, mDrop, mNever]
      omega
  have und_ : ∀ (v9 : SV) (k : Nat), EvL (mLc (srcL (mLst (oRev (mVarB 2)))) [17] (tgN 17) mYes (mCall (lenM 2 d__law_undone) (mCons (mVar 1) (mCons (mVar 17) mNil)))) (E v9) (Nc 23 (k + 2)) 8 := fun v9 k => by
    rw [hE]
    refine evl_compS (src := mVar 0) (ds := play.reverse) (by funext q; simp [runD, env0, mSeq, mIfS, mNot, mB, mIsC, mVar, isC, mRet, mC, mTV, mAnd, mOr, mBin, mFld, dEqF, flV, retM, DL.bindM, mNx, mCall, lenM, mCons, mNil, mTup, mIsT, isT, mSet, mAsg, tgTup, tgCons, tgN, tgNil, mk_Ratio_1, mk_Ratio_2, mCallO, lenO, runO, mRetO, mLst, mIf, mUn, dNegI, mIsT2, mNoP, mPart, oListC, mDrop, mNever, srcL, oRev, mVarB]) (by rw [List.length_reverse]; exact hpl) (by decide) fun d hd => ?_
    have hd' := List.mem_reverse.mp hd
    rw [hplay] at hd'
    obtain ⟨m, hm, rfl⟩ := List.mem_map.mp hd'
    have h1 := undone_eq hn (hg m hm)
    refine ⟨(und n m).d, by funext q; simp [runD, env0, mSeq, mIfS, mNot, mB, mIsC, mVar, isC, mRet, mC, mTV, mAnd, mOr, mBin, mFld, dEqF, flV, retM, DL.bindM, mNx, mCall, lenM, mCons, mNil, mTup, mIsT, isT, mSet, mAsg, tgTup, tgCons, tgN, tgNil, mk_Ratio_1, mk_Ratio_2, mCallO, lenO, runO, mRetO, mLst, mIf, mUn, dNegI, mIsT2, mNoP, mPart, oListC, mDrop, mNever, wipeE, h1], ?_⟩
    rw [Nat.add_comm]
    exact (mv_nc hn (und_good hn (hg m hm))).upn k
  have E9 : ∀ (v9 w : SV), (E v9).set 9 w = E w := fun v9 w => by rw [hE]; rfl
  have E9v : ∀ v9 : SV, (E v9)[9]? = some v9 := fun v9 => by rw [hE]; rfl
  have E2v : ∀ v9 : SV, (E v9)[2]? = some (.val (.lst play)) := fun v9 => by rw [hE]; rfl
  have El : ∀ v9 : SV, (E v9).length = 18 := fun v9 => by rw [hE]; rfl
  have EE : ∀ v9 : SV, E v9 = ([.val .pot, .val (.int (n : Nat)), .val (.lst play), .val (.lst (dl.map .int)), .val (.int (i : Nat)), .val (.int (1 + f0)), .own (ot.map .int), .val (.int (j : Nat)), .val (.lst [.lst (dl.map .int), .lst (dl.map .int)]), v9, .un, .un, .un, .un, .un, .un, .un, .un] : Env') := fun v9 => by rw [hE]
  rw [← EE]
  clear hE
  refine wp_seq ?_
  have h5 : EvL (mNew (mCons (mVar 2) (mCons (mCall cTup (mCons (mVar 2) mNil)) (mCons (mLst (oRev (mVarB 2))) (mCons (mLst (oSlice (mVarB 2) mNoP (mPart (mUn dNegI (mC (.int 1)))))) (mCons (mLst (oCat (mVar 2) (mLst (oSlice (mVarB 2) mNoP (mPart (mC (.int 1))))))) (mCons (mLst (mNew mNil)) (mCons (mTup mNil) (mCons (mC .non) (mCons (mC (.int 0)) (mCons (mC (.str "")) (mCons (mC (.str "y")) (mCons (mC .ed) (mCons (mC (.bl true)) (mCons (mLst (mNew (mCons (mC .non) mNil))) mNil))))))))))))))) (E .un) (Nc 23 4) 14 := by
    exact by (repeat' (first
      | exact evl_nil
      | apply evl_cons
      | exact ev_c nc_bl
      | exact ev_c nc_non
      | exact ev_c .ed
      | exact ev_c (nc_str (by decide +kernel))
      | exact ev_c (nc_small (by decide) (by decide))
      | exact playv _ _
      | exact playb _ _
      | exact m1 _
      | exact p1_ _
      | exact rep _ _
      | exact und_ _ _
      | apply ev_tup
      | apply ev_ctup
      | exact evp_no
      | apply evl_new
      | apply evl_cat
      | apply evl_slice
      | apply evl_rev
      | apply evd_lst
      | apply ev_nc
      | decide
      | omega))
  obtain ⟨s1, f1, f2, f3⟩ := h5.at p'
  refine wp_setO (by rw [El]; decide) ⟨s1, p', f1, rfl, ?_⟩
  rw [E9]
  refine wp_frzV (E2v _) ?_
  refine wp_seq ?_
  have h6 : EvD (mLst (mNew (mCons (mLst (oCat (mVar 2) (mLst (mLc (srcL (mLst (oRev (mVarB 2)))) [17] (tgN 17) mYes (mCall (lenM 2 d__law_undone) (mCons (mVar 1) (mCons (mVar 17) mNil))))))) (mCons (mLst (oCat (mVar 2) (mLst (mNew (mCons (mTup (mCons (mC (.str "turn")) (mCons (mC (.int 1)) mNil))) (mCons (mTup (mCons (mC (.str "x")) (mCons (mLst (oRep (mLst (mNew (mCons (mC (.int 0)) mNil))) (mVar 1))) mNil))) mNil)))))) mNil)))) (E (.own s1)) (Nc 23 4) 2 := by
    exact by (repeat' (first
      | exact evl_nil
      | apply evl_cons
      | exact ev_c nc_bl
      | exact ev_c nc_non
      | exact ev_c .ed
      | exact ev_c (nc_str (by decide +kernel))
      | exact ev_c (nc_small (by decide) (by decide))
      | exact playv _ _
      | exact playb _ _
      | exact m1 _
      | exact p1_ _
      | exact rep _ _
      | exact und_ _ _
      | apply ev_tup
      | apply ev_ctup
      | exact evp_no
      | apply evl_new
      | apply evl_cat
      | apply evl_slice
      | apply evl_rev
      | apply evd_lst
      | apply ev_nc
      | decide
      | omega))
  obtain ⟨s2, f4, f5, f6⟩ := h6.at p'
  refine wp_ext (E9v _) ⟨s2, p', f4, by omega, rfl, ?_⟩
  rw [E9]
  refine wp_frz (E9v _) ?_
  rw [E9]
  refine wp_frzV (E2v _) ?_
  obtain ⟨bs, p5, e5, q5, l5, g5⟩ := comp_n (Q := fun d => Nc 23 4 d) (i := 16) (e := mCall (lenM 3 d__law_bent_play) (mCons (mVar 0) (mCons (mVar 1) (mCons (mVar 2) mNil)))) (env := E (.val (.lst (s1 ++ s2)))) 14 (fun d q hq => by
    obtain ⟨b, q', e, hb, g⟩ := law_bent_play hn hq hpn hpl
    refine ⟨b, q', ?_, hb, g⟩
    rw [EE]
    simp [runD, env0, mSeq, mIfS, mNot, mB, mIsC, mVar, isC, mRet, mC, mTV, mAnd, mOr, mBin, mFld, dEqF, flV, retM, DL.bindM, mNx, mCall, lenM, mCons, mNil, mTup, mIsT, isT, mSet, mAsg, tgTup, tgCons, tgN, tgNil, mk_Ratio_1, mk_Ratio_2, mCallO, lenO, runO, mRetO, mLst, mIf, mUn, dNegI, mIsT2, mNoP, mPart, oListC, mDrop, mNever, e]) g4
  have hq : ∀ d ∈ s1 ++ s2 ++ bs, Nc 23 4 d := fun d hd => by
    rcases List.mem_append.mp hd with hd | hd
    · rcases List.mem_append.mp hd with hd | hd
      · exact f2 d hd
      · exact f5 d hd
    · exact q5 d hd
  have hsrc : (srcL (mLst (oCat (mVar 9) (mLst (mLc (srcR1 (mCons (mC (.int 14)) mNil)) [16] (tgN 16) mYes (mCall (lenM 3 d__law_bent_play) (mCons (mVar 0) (mCons (mVar 1) (mCons (mVar 2) mNil))))))))) (E (.val (.lst (s1 ++ s2)))) p' = some (s1 ++ s2 ++ bs, p5) := by
    have hz : (s1 ++ s2).length + bs.length ≤ 100000 := by rw [List.length_append]; omega
    have hr : (rngD 0 14).length ≤ 100000 := by rw [rngD_len]; decide
    have hw : wipeE (E (.val (.lst (s1 ++ s2)))) [16] = E (.val (.lst (s1 ++ s2))) := by rw [EE]; rfl
    have hv : mVar 9 (E (.val (.lst (s1 ++ s2)))) = retM (.lst (s1 ++ s2)) := by unfold mVar; rw [E9v]
    generalize mCall (lenM 3 d__law_bent_play) (mCons (mVar 0) (mCons (mVar 1) (mCons (mVar 2) mNil))) = el at *
    generalize s1 ++ s2 = s3 at *
    have hb : (mLst (mLc (srcR1 (mCons (mC (.int 14)) mNil)) [16] (tgN 16) mYes el)) (E (.val (.lst s3))) p' = some (.lst bs, p5) := by
      have h0 : srcR1 (mCons (mC (.int 14)) mNil) (E (.val (.lst s3))) = retM (rngD 0 14) := rfl
      unfold mLst mLc
      simp only [DL.bindM, h0, retM, hr, if_true, hw, e5]
    generalize (mLst (mLc (srcR1 (mCons (mC (.int 14)) mNil)) [16] (tgN 16) mYes el)) = bl at *
    unfold srcL mLst oCat
    simp only [DL.bindM, hv, retM, hb, hz, if_true]
  refine wp_seq (wp_for (I := fun e q => Good q ∧ ∃ s6 w8 w10 w11 w12 w13 w14 w15, e = [.val .pot, .val (.int (n : Nat)), .val (.lst play), .val (.lst (dl.map .int)), .val (.int (i : Nat)), .val (.int (1 + f0)), s6, .val (.int (j : Nat)), w8, .val (.lst (s1 ++ s2)), w10, w11, w12, w13, w14, w15, .un, .un] ∧ (s6 = .own (ot.map .int) ∨ s6 = .val (.lst (ot.map .int)))) ?_ ?_)
  · refine ⟨s1 ++ s2 ++ bs, p5, hsrc, ⟨g5, _, _, _, _, _, _, _, _, EE _, .inl rfl⟩, fun d hd e q hI => ?_⟩
    obtain ⟨gq, s6, w8, w10, w11, w12, w13, w14, w15, rfl, h6⟩ := hI
    refine ⟨_, rfl, ?_⟩
    obtain ⟨o, e', p', h1, rfl, rfl, u8, u11, u12, u13, u14, u15, rfl⟩ := out_body hn (hq d hd) hsd hso (.val .pot) (.val (.lst play)) (.val (.int (i : Nat))) (.val (.int (1 + f0))) (.val (.int (j : Nat))) w8 (.val (.lst (s1 ++ s2))) w11 w12 w13 w14 w15 .un .un s6 h6 q
    exact ⟨.nx, _, _, h1, rfl, gq, _, _, _, _, _, _, _, _, rfl, .inr rfl⟩
  · intro e q hI
    exact ⟨rfl, wp_ret ⟨.bl true, q, rfl, .bl true, rfl, rfl, hI.1⟩⟩
end Q
end

section
set_option Elab.async false
set_option linter.all false
set_option maxRecDepth 100000
set_option maxHeartbeats 4000000
set_option exponentiation.threshold 20000
/-! k42: long plays; the law. -/
namespace Q
open DL PySem PyProof.Rows
theorem is3 : isP 3 := .inl rfl
theorem und3 {m : Mv} (h : Good' 3 m) : und 3 (und 3 (und 3 m)) = und 3 m := by
  have key : ∀ xs : List Int, (∀ x ∈ xs, 0 ≤ x ∧ x ≤ ((3 : Nat) : Int) - 1) → ((xs.map fun x => (((3 : Nat) : Int) - x) % ((3 : Nat) : Int)).map fun x => (((3 : Nat) : Int) - x) % ((3 : Nat) : Int)).map (fun x => (((3 : Nat) : Int) - x) % ((3 : Nat) : Int)) = xs.map fun x => (((3 : Nat) : Int) - x) % ((3 : Nat) : Int) := fun xs hx => by
    rw [List.map_map, List.map_map]
    refine List.map_congr_left fun x hxm => ?_
    have := hx x hxm
    show (((3 : Nat) : Int) - (((3 : Nat) : Int) - (((3 : Nat) : Int) - x) % ((3 : Nat) : Int)) % ((3 : Nat) : Int)) % ((3 : Nat) : Int) = (((3 : Nat) : Int) - x) % ((3 : Nat) : Int)
    omega
  cases m with
  | turn c =>
    obtain ⟨h1, h2⟩ := h
    have : c = 1 ∨ c = 2 := by omega
    rcases this with rfl | rfl <;> exact congrArg Mv.turn (by decide +kernel)
  | col tp xs => exact congrArg (Mv.col false) (key xs h.2)
  | row tp xs => exact congrArg (Mv.row false) (key xs h.2)
theorem ctr_comp {xs : List Int} (env : Env') (h0 : ∀ d, (env.set 4 (.val d))[0]? = some (.val (.int 3))) (h4 : ∀ d, (env.set 4 (.val d))[4]? = some (.val d)) : compM (tgN 4) mYes (mBin dModI (mCall cInt (mCons (mBin dSubI (mC (.int 0)) (mVar 4)) mNil)) (mVar 0)) env (xs.map D.int) = retM ((xs.map fun x => (((3 : Nat) : Int) - x) % ((3 : Nat) : Int)).map D.int) := by
  rw [List.map_map]
  refine comp_map fun x _ => ?_
  have a0 := h0 (.int x)
  have a4 := h4 (.int x)
  have md : dModI (.int (0 - x)) (.int 3) = retM (.int ((((3 : Nat) : Int) - x) % ((3 : Nat) : Int))) := by
    show retM (D.int ((0 - x) % 3)) = _
    congr 2
    omega
  generalize env.set 4 (.val (.int x)) = env' at *
  have hs : dSubI (.int 0) (.int x) = retM (.int (0 - x)) := rfl
  have hc : cInt [.int (0 - x)] = retM (.int (0 - x)) := rfl
  generalize (0 - x) = y at *
  show _ = retM (D.int ((((3 : Nat) : Int) - x) % ((3 : Nat) : Int)))
  generalize (((3 : Nat) : Int) - x) % ((3 : Nat) : Int) = z at *
  funext q
  simp [runD, env0, mSeq, mIfS, mNot, mB, mIsC, mVar, isC, mRet, mC, mTV, mAnd, mOr, mBin, mFld, dEqF, flV, retM, DL.bindM, mNx, mCall, lenM, mCons, mNil, mTup, mIsT, isT, mSet, mAsg, tgTup, tgCons, tgN, tgNil, mk_Ratio_1, mk_Ratio_2, mCallO, lenO, runO, mRetO, mLst, mIf, mUn, dNegI, mIsT2, mNoP, mPart, oListC, mDrop, mNever, a0, a4, hs, hc, md]
theorem contrary_eq {m : Mv} (h : Good' 3 m) : d_contrary_move [.int 3, m.d] = retM (und 3 m).d := by
  cases m with
  | turn c =>
    obtain ⟨h1, h2⟩ := h
    have : c = 1 ∨ c = 2 := by omega
    rcases this with rfl | rfl <;> (funext q; rfl)
  | col tp xs =>
    have t2 := turn_n1
    have hl : xs.length ≤ 100000 := by have := h.1; omega
    have hs : srcS (mVar 3) [.val (.int 3), .val (.tup [.str "y", seqD tp xs]), .val (.str "y"), .val (seqD tp xs), .un] = retM (xs.map .int) := src_items (seq_items tp xs) rfl
    have hc := ctr_comp (xs := xs) [.val (.int 3), .val (.tup [.str "y", seqD tp xs]), .val (.str "y"), .val (seqD tp xs), .un] (fun _ => rfl) (fun _ => rfl)
    show d_contrary_move [.int 3, .tup [.str "y", seqD tp xs]] = retM (.tup [.str "y", seqD false (xs.map fun x => (((3 : Nat) : Int) - x) % ((3 : Nat) : Int))])
    generalize (xs.map fun x => (((3 : Nat) : Int) - x) % ((3 : Nat) : Int)) = ys at *
    simp only [d_contrary_move, m_contrary_move, runD, env0]
    generalize mBin dModI (mCall cInt (mCons (mBin dSubI (mC (.int 0)) (mVar 4)) mNil)) (mVar 0) = el at *
    generalize dEqF = eqf at *
    generalize seqD tp xs = sd at *
    generalize srcS (mVar 3) = sr at *
    unfold seqD
    funext q
    simp [runD, env0, mSeq, mIfS, mNot, mB, mIsC, mVar, isC, mRet, mC, mTV, mAnd, mOr, mBin, mFld, dEqF, flV, retM, DL.bindM, mNx, mCall, lenM, mCons, mNil, mTup, mIsT, isT, mSet, mAsg, tgTup, tgCons, tgN, tgNil, mk_Ratio_1, mk_Ratio_2, mCallO, lenO, runO, mRetO, mLst, mIf, mUn, dNegI, mIsT2, mNoP, mPart, oListC, mDrop, mNever, t2, mLc, hs, hl, wipeE, hc]
  | row tp xs =>
    have t2 := turn_n2
    have hl : xs.length ≤ 100000 := by have := h.1; omega
    have hs : srcS (mVar 3) [.val (.int 3), .val (.tup [.str "x", seqD tp xs]), .val (.str "x"), .val (seqD tp xs), .un] = retM (xs.map .int) := src_items (seq_items tp xs) rfl
    have hc := ctr_comp (xs := xs) [.val (.int 3), .val (.tup [.str "x", seqD tp xs]), .val (.str "x"), .val (seqD tp xs), .un] (fun _ => rfl) (fun _ => rfl)
    show d_contrary_move [.int 3, .tup [.str "x", seqD tp xs]] = retM (.tup [.str "x", seqD false (xs.map fun x => (((3 : Nat) : Int) - x) % ((3 : Nat) : Int))])
    generalize (xs.map fun x => (((3 : Nat) : Int) - x) % ((3 : Nat) : Int)) = ys at *
    simp only [d_contrary_move, m_contrary_move, runD, env0]
    generalize mBin dModI (mCall cInt (mCons (mBin dSubI (mC (.int 0)) (mVar 4)) mNil)) (mVar 0) = el at *
    generalize dEqF = eqf at *
    generalize seqD tp xs = sd at *
    generalize srcS (mVar 3) = sr at *
    unfold seqD
    funext q
    simp [runD, env0, mSeq, mIfS, mNot, mB, mIsC, mVar, isC, mRet, mC, mTV, mAnd, mOr, mBin, mFld, dEqF, flV, retM, DL.bindM, mNx, mCall, lenM, mCons, mNil, mTup, mIsT, isT, mSet, mAsg, tgTup, tgCons, tgN, tgNil, mk_Ratio_1, mk_Ratio_2, mCallO, lenO, runO, mRetO, mLst, mIf, mUn, dNegI, mIsT2, mNoP, mPart, oListC, mDrop, mNever, t2, mLc, hs, hl, wipeE, hc]
theorem good_rep {m : Mv} (h : Good' 3 m) (k : Nat) : ∀ x ∈ List.replicate k m, Good' 3 x := fun x hx => by
  rw [(List.mem_replicate.mp hx).2]; exact h
theorem ctrplay_eq {m : Mv} (h : Good' 3 m) {k : Nat} (hk : k ≤ 1500) : o_contrary_play [.int 3, .lst (List.replicate k m.d)] = retM (List.replicate k (und 3 m).d) ∧ d_contrary_play [.int 3, .lst (List.replicate k m.d)] = retM (.lst (List.replicate k (und 3 m).d)) := by
  have h1 : d_want_prime [.int 3] = retM .non := want_prime_eq is3
  have hi : itemsD (.lst (List.replicate k m.d)) = some ((List.replicate k m).map Mv.d) := by rw [List.map_replicate]; rfl
  have hg := good_rep h k
  have h2 : d_want_play [.int 3, .lst (List.replicate k m.d)] = retM .non := wantplay_eq (p := 3) (kp_of (p := 3) (by decide) hi hg (by rw [List.length_replicate]; omega)) (playB_of hi hg (by rw [List.length_replicate]; exact hk))
  have h3 : o_contrary_of [.int 3, .lst (List.replicate k m.d)] = retM (List.replicate k (und 3 m).d) := by
    have hc := contrary_eq h
    have hcc : compM (tgN 2) mYes (mCall (lenM 2 d_contrary_move) (mCons (mVar 0) (mCons (mVar 2) mNil))) [.val (.int 3), .val (.lst (List.replicate k m.d)), .un] (List.replicate k m.d) = retM (List.replicate k (und 3 m).d) := by
      have := comp_map (l := List.replicate k m) (F := fun _ => m.d) (g := fun _ => (und 3 m).d) (i := 2) (e := mCall (lenM 2 d_contrary_move) (mCons (mVar 0) (mCons (mVar 2) mNil))) (env := [.val (.int 3), .val (.lst (List.replicate k m.d)), .un]) fun _ _ => by
        funext q; simp [runD, env0, mSeq, mIfS, mNot, mB, mIsC, mVar, isC, mRet, mC, mTV, mAnd, mOr, mBin, mFld, dEqF, flV, retM, DL.bindM, mNx, mCall, lenM, mCons, mNil, mTup, mIsT, isT, mSet, mAsg, tgTup, tgCons, tgN, tgNil, mk_Ratio_1, mk_Ratio_2, mCallO, lenO, runO, mRetO, mLst, mIf, mUn, dNegI, mIsT2, mNoP, mPart, oListC, mDrop, mNever, hc]
      rw [List.map_replicate, List.map_replicate] at this
      exact this
    have hl : k ≤ 100000 := by omega
    have hrev : (List.replicate k m.d).reverse = List.replicate k m.d := List.reverse_replicate
    have hlen : (List.replicate k m.d).length = k := List.length_replicate
    have hm : m_contrary_of = mRetO (mLc (srcL (mLst (oRev (mVar 1)))) [2] (tgN 2) mYes (mCall (lenM 2 d_contrary_move) (mCons (mVar 0) (mCons (mVar 2) mNil)))) := rfl
    generalize mCall (lenM 2 d_contrary_move) (mCons (mVar 0) (mCons (mVar 2) mNil)) = el at *
    generalize List.replicate k m.d = rp at *
    generalize List.replicate k (und 3 m).d = rq at *
    funext q
    simp [runD, env0, mSeq, mIfS, mNot, mB, mIsC, mVar, isC, mRet, mC, mTV, mAnd, mOr, mBin, mFld, dEqF, flV, retM, DL.bindM, mNx, mCall, lenM, mCons, mNil, mTup, mIsT, isT, mSet, mAsg, tgTup, tgCons, tgN, tgNil, mk_Ratio_1, mk_Ratio_2, mCallO, lenO, runO, mRetO, mLst, mIf, mUn, dNegI, mIsT2, mNoP, mPart, oListC, mDrop, mNever, o_contrary_of, hm, mLc, srcL, oRev, hrev, hlen, hl, wipeE, hcc]
  have h4 : oListC [.lst (List.replicate k m.d)] = retM (List.replicate k m.d) := rfl
  unfold oListC at h4
  generalize List.replicate k m.d = rp at *
  generalize List.replicate k (und 3 m).d = rq at *
  constructor <;> (funext q; simp [runD, env0, mSeq, mIfS, mNot, mB, mIsC, mVar, isC, mRet, mC, mTV, mAnd, mOr, mBin, mFld, dEqF, flV, retM, DL.bindM, mNx, mCall, lenM, mCons, mNil, mTup, mIsT, isT, mSet, mAsg, tgTup, tgCons, tgN, tgNil, mk_Ratio_1, mk_Ratio_2, mCallO, lenO, runO, mRetO, mLst, mIf, mUn, dNegI, mIsT2, mNoP, mPart, oListC, mDrop, mNever, o_contrary_play, d_contrary_play, m_contrary_play, h1, h2, h4, h3])
theorem cat_u (a b : List D) (h : a.length + b.length ≤ 100000) : dAddU (.lst a) (.lst b) = retM (.lst (a ++ b)) := by
  unfold dAddU
  rw [dOr_fail (by rfl), dOr_fail (by rfl)]
  unfold dCatL
  dsimp only
  rw [if_pos h]
theorem rep_at {env : Env'} {i : Nat} {d : D} (hv : env[i]? = some (.val d)) (k : Nat) (hk : k ≤ 100000) : oRep (mLst (mNew (mCons (mVar i) mNil))) (mC (.int (k : Nat))) env = retM (List.replicate k d) := by
  have h1 : (k : Int) ≤ 100000 := by omega
  have h2 : (-100000 : Int) ≤ (k : Int) := by omega
  have h3 : repD [d] k = List.replicate k d := by
    unfold repD
    induction k with
    | zero => rfl
    | succ k ih => rw [List.replicate_succ, List.flatten_cons, ih (by omega) (by omega) (by omega), List.replicate_succ]; rfl
  funext q
  simp [runD, env0, mSeq, mIfS, mNot, mB, mIsC, mVar, isC, mRet, mC, mTV, mAnd, mOr, mBin, mFld, dEqF, flV, retM, DL.bindM, mNx, mCall, lenM, mCons, mNil, mTup, mIsT, isT, mSet, mAsg, tgTup, tgCons, tgN, tgNil, mk_Ratio_1, mk_Ratio_2, mCallO, lenO, runO, mRetO, mLst, mIf, mUn, dNegI, mIsT2, mNoP, mPart, oListC, mDrop, mNever, oRep, mNew, hv, h1, h2, hk, h3]
theorem nc3 {m : Mv} (h : Good' 3 m) : Nc 3 2 m.d := by
  have sq : ∀ (w : Str) (tp : Bool) (xs : List Int), (reprText w).length ≤ 24 → Gl 3 xs → Nc 3 2 (.tup [.str w, seqD tp xs]) := fun w tp xs hw hG => by
    refine .tup (by show 2 ≤ 3; decide) fun d hd => ?_
    simp only [List.mem_cons, List.not_mem_nil, or_false] at hd
    rcases hd with rfl | rfl
    · exact nc_str hw
    · have hx : ∀ d ∈ xs.map D.int, Nc 3 0 d := int_nc hG.2 (by decide)
      have hl : (xs.map D.int).length ≤ 3 := by rw [List.length_map, hG.1]; exact Nat.le_refl _
      unfold seqD
      cases tp
      · exact .lst hl hx
      · exact .tup hl hx
  cases m with
  | turn c =>
    obtain ⟨h1, h2⟩ := h
    refine .tup (by show 2 ≤ 3; decide) fun d hd => ?_
    simp only [List.mem_cons, List.not_mem_nil, or_false] at hd
    rcases hd with rfl | rfl
    · exact nc_str (by decide +kernel)
    · exact nc_small (by omega) (by omega)
  | col tp xs => exact sq "y" tp xs (by decide +kernel) h
  | row tp xs => exact sq "x" tp xs (by decide +kernel) h
theorem rp_rep {m : Mv} (h : Good' 3 m) {k : Nat} (hk : k ≤ 1500) : Rp 3 1600000 (.lst (List.replicate k m.d)) := by
  refine Rp.lst (b := Wb 3 2) (fun d hd => ?_) ?_
  · rw [(List.mem_replicate.mp hd).2]
    exact (nc3 h).rp (by decide) 0
  · rw [List.length_replicate]
    have : Wb 3 2 = 1040 := by decide
    rw [this]
    omega
theorem truth_text : cReprU [.lst [.bl true, .bl false, .bl true, .bl false]] = retM (.str "[True, False, True, False]") := by
  have h : repT ur 4 (.lst [.bl true, .bl false, .bl true, .bl false]) = some (Str.ofString "[True, False, True, False]") := by
    show some (listText ["True", "False", "True", "False"]) = _
    exact congrArg some (by decide +kernel)
  unfold cReprU cRepr
  dsimp only
  rw [h]
  rfl
theorem eqq_str (s : Str) : dEqU false (.str s) (.str s) = retM (.bl true) := by
  unfold dEqU dEqR
  rw [dOr_ret (a := .bl true)]
  rw [dOr_ret (a := .bl true)]
  unfold dEqF
  simp [runD, env0, mSeq, mIfS, mNot, mB, mIsC, mVar, isC, mRet, mC, mTV, mAnd, mOr, mBin, mFld, dEqF, flV, retM, DL.bindM, mNx, mCall, lenM, mCons, mNil, mTup, mIsT, isT, mSet, mAsg, tgTup, tgCons, tgN, tgNil, mk_Ratio_1, mk_Ratio_2, mCallO, lenO, runO, mRetO, mLst, mIf, mUn, dNegI, mIsT2, mNoP, mPart, oListC, mDrop, mNever, flV, L2.scal]
theorem law_long {p : Pt} (hp : Good p) : ∃ p', d__law_long_right [.pot] p = some (.bl true, p') ∧ Good p' := by
  obtain ⟨m, p1, e1, hm, g1⟩ := law_move is3 hp
  have e1' : d__law_move [.pot, .int 3] p = some (m.d, p1) := e1
  refine ⟨p1, ?_, g1⟩
  have hb := und_good is3 hm
  have hf := und_good is3 hb
  have u1 : d__law_undone [.int 3, m.d] = retM (und 3 m).d := undone_eq is3 hm
  have u2 : d__law_undone [.int 3, (und 3 m).d] = retM (und 3 (und 3 m)).d := undone_eq is3 hb
  have u3 := und3 hm
  have c1 := (ctrplay_eq hm (k := 188) (by decide)).1
  have c2 := (ctrplay_eq hm (k := 187) (by decide)).1
  have c3 := (ctrplay_eq hb (k := 375) (by decide)).1
  have c4 := (ctrplay_eq hf (k := 750) (by decide)).2
  rw [u3] at c4
  have c5 := (ctrplay_eq hb (k := 1500) (by decide)).1
  have a1 := cat_u (List.replicate 188 (und 3 m).d) (List.replicate 187 (und 3 m).d) (by rw [List.length_replicate, List.length_replicate]; decide)
  rw [List.replicate_append_replicate] at a1
  have a2 := cat_u (List.replicate 375 (und 3 (und 3 m)).d) (List.replicate 375 (und 3 (und 3 m)).d) (by rw [List.length_replicate]; decide)
  rw [List.replicate_append_replicate] at a2
  have a3 := cat_u (List.replicate 750 (und 3 m).d) (List.replicate 750 (und 3 m).d) (by rw [List.length_replicate]; decide)
  rw [List.replicate_append_replicate] at a3
  obtain ⟨t1, ht1⟩ := rp_repr (d := .lst [.lst (List.replicate 188 (und 3 m).d), .lst (List.replicate 187 (und 3 m).d)]) (B := 10000000) (Rp.lst (b := 1600000) (fun d hd => by
    simp only [List.mem_cons, List.not_mem_nil, or_false] at hd
    rcases hd with rfl | rfl
    · exact rp_rep hb (by decide)
    · exact rp_rep hb (by decide)) (by show (1600000 + 2) * 2 + 4 ≤ 10000000; decide)) (Nat.le_refl _)
  obtain ⟨t2, ht2⟩ := rp_repr (d := .lst [.lst (List.replicate 375 (und 3 (und 3 m)).d), .lst (List.replicate 750 (und 3 m).d), .lst (List.replicate 1500 (und 3 (und 3 m)).d)]) (B := 10000000) (Rp.lst (b := 1600000) (fun d hd => by
    simp only [List.mem_cons, List.not_mem_nil, or_false] at hd
    rcases hd with rfl | rfl | rfl
    · exact rp_rep hf (by decide)
    · exact rp_rep hb (by decide)
    · exact rp_rep hf (by decide)) (by show (1600000 + 2) * 3 + 4 ≤ 10000000; decide)) (Nat.le_refl _)
  have hi : itemsD (.lst (List.replicate 1500 (und 3 (und 3 m)).d)) = some ((List.replicate 1500 (und 3 (und 3 m))).map Mv.d) := by rw [List.map_replicate]; rfl
  have hg := good_rep hf 1500
  have hl : (List.replicate 1500 (und 3 (und 3 m))).length ≤ 1500 := by rw [List.length_replicate]; exact Nat.le_refl _
  have pd := (played_eq is3 hi hg).1
  have hsd : sortI (deal 3 (List.replicate 1500 (und 3 (und 3 m)))) = rngI (3 * 3) := sortI_rng (deal_perm is3 hg)
  have hk1 := kp_of (p := 3) (by decide) hi hg (by omega)
  have i1 := isplay_eq is3 hk1
  rw [playB_of hi hg hl] at i1
  have long : ∀ x : Mv, Good' 3 x → Kp (.lst (List.replicate 1500 (und 3 (und 3 m)).d ++ [x.d])) ∧ playB 3 (.lst (List.replicate 1500 (und 3 (und 3 m)).d ++ [x.d])) = false := fun x hx => by
    have hi2 : itemsD (.lst (List.replicate 1500 (und 3 (und 3 m)).d ++ [x.d])) = some ((List.replicate 1500 (und 3 (und 3 m)) ++ [x]).map Mv.d) := by rw [List.map_append, List.map_replicate]; rfl
    refine ⟨kp_of (p := 3) (by decide) hi2 (fun y hy => ?_) (by rw [List.length_append, List.length_replicate]; show 1500 + 1 ≤ 100000; decide), ?_⟩
    · rcases List.mem_append.mp hy with hy | hy
      · exact hg y hy
      · rw [List.mem_singleton.mp hy]; exact hx
    · unfold playB
      dsimp only [itemsD]
      have : ¬ (List.replicate 1500 (und 3 (und 3 m)).d ++ [x.d]).length ≤ 1500 := by
        rw [List.length_append, List.length_replicate]; show ¬ 1500 + 1 ≤ 1500; decide
      rw [decide_eq_false this]
      rfl
  obtain ⟨k2, b2⟩ := long (und 3 (und 3 m)) hf
  have i2 := isplay_eq is3 k2
  rw [b2] at i2
  obtain ⟨k3, b3⟩ := long (.turn 1) ⟨by decide, by decide⟩
  have k3' : Kp (.lst (List.replicate 1500 (und 3 (und 3 m)).d ++ [.tup [.str "turn", .int 1]])) := k3
  have b3' : playB 3 (.lst (List.replicate 1500 (und 3 (und 3 m)).d ++ [.tup [.str "turn", .int 1]])) = false := b3
  have f1 := playfor_yes is3 (dl := .lst ((deal 3 (List.replicate 1500 (und 3 (und 3 m)))).map .int)) rfl hsd hi hg hl
  rw [decide_eq_true rfl] at f1
  have f2 := playfor_no is3 (dl := .lst ((deal 3 (List.replicate 1500 (und 3 (und 3 m)))).map .int)) rfl hsd k3' b3'
  have pl := playdeal_eq is3 hi hg hl
  have hdlen := deal_len hsd
  have hdb : ∀ x ∈ deal 3 (List.replicate 1500 (und 3 (und 3 m))), 0 ≤ x ∧ x ≤ 121 := fun x hx => by
    have h9 : x ∈ sortI (deal 3 (List.replicate 1500 (und 3 (und 3 m)))) := (sortI_perm _).mem_iff.mpr hx
    rw [hsd] at h9
    have := rngI_mem h9
    omega
  generalize deal 3 (List.replicate 1500 (und 3 (und 3 m))) = dl at *
  obtain ⟨t3, ht3⟩ := (show Nc 250 2 (.lst (dl.map .int)) from (Nc.lst (n := 0) (by rw [List.length_map]; omega) (int_nc hdb (by decide))).up).repr (by decide) (by decide) (by decide +kernel)
  have n1 := nequ_str t1
  have n2 := nequ_str t2
  have n3 := eqq_str t3
  have n4 := eqq_str "[True, False, True, False]"
  have tt := truth_text
  have z1 : ((List.replicate 1500 (und 3 (und 3 m)).d).length + 1) ≤ 100000 := by rw [List.length_replicate]; decide
  clear long hi hg hl hk1 k2 b2 k3 b3 k3' b3' hsd hdlen hdb e1
  have r188 : ∀ (v : SV), oRep (mLst (mNew (mCons (mVar 1) mNil))) (mC (.int 188)) [.val .pot, .val m.d, .val (und 3 m).d, .val (und 3 (und 3 m)).d, v, .un, .un, .un, .un, .un, .un] = retM (List.replicate 188 m.d) := fun v => rep_at (k := 188) rfl (by decide)
  have r187 : ∀ (v : SV), oRep (mLst (mNew (mCons (mVar 1) mNil))) (mC (.int 187)) [.val .pot, .val m.d, .val (und 3 m).d, .val (und 3 (und 3 m)).d, v, .un, .un, .un, .un, .un, .un] = retM (List.replicate 187 m.d) := fun v => rep_at (k := 187) rfl (by decide)
  have rb : ∀ (k : Nat) (env : Env'), k ≤ 100000 → env[2]? = some (.val (und 3 m).d) → oRep (mLst (mNew (mCons (mVar 2) mNil))) (mC (.int (k : Nat))) env = retM (List.replicate k (und 3 m).d) := fun k env hk hv => rep_at hv k hk
  have rf : ∀ (k : Nat) (env : Env'), k ≤ 100000 → env[3]? = some (.val (und 3 (und 3 m)).d) → oRep (mLst (mNew (mCons (mVar 3) mNil))) (mC (.int (k : Nat))) env = retM (List.replicate k (und 3 (und 3 m)).d) := fun k env hk hv => rep_at hv k hk
  have rb188 := fun env => rb 188 env (by decide)
  have rb187 := fun env => rb 187 env (by decide)
  have rb750 := fun env => rb 750 env (by decide)
  have rf375 := fun env => rf 375 env (by decide)
  have rf1500 := fun env => rf 1500 env (by decide)
  clear rb rf
  generalize List.replicate 188 (und 3 m).d = B188 at *
  generalize List.replicate 187 (und 3 m).d = B187 at *
  generalize List.replicate (188 + 187) (und 3 m).d = B375 at *
  generalize List.replicate 375 (und 3 (und 3 m)).d = F375 at *
  generalize List.replicate (375 + 375) (und 3 (und 3 m)).d = F750 at *
  generalize List.replicate 750 (und 3 m).d = B750 at *
  generalize List.replicate (750 + 750) (und 3 m).d = B1500 at *
  generalize List.replicate 1500 (und 3 (und 3 m)).d = F1500 at *
  generalize List.replicate 188 m.d = M188 at *
  generalize List.replicate 187 m.d = M187 at *
  generalize (und 3 (und 3 m)).d = F at *
  generalize (und 3 m).d = B at *
  generalize m.d = Md at *
  suffices h : ∃ d p', d__law_long_right [.pot] p = some (d, p') ∧ d = .bl true ∧ p' = p1 by
    obtain ⟨d, p', e, rfl, rfl⟩ := h
    exact e
  refine run_wp (S := fun d p' => d = .bl true ∧ p' = p1) ?_
  refine wp_seq (wp_set ⟨Md, p1, by simp [runD, env0, mSeq, mIfS, mNot, mB, mIsC, mVar, isC, mRet, mC, mTV, mAnd, mOr, mBin, mFld, dEqF, flV, retM, DL.bindM, mNx, mCall, lenM, mCons, mNil, mTup, mIsT, isT, mSet, mAsg, tgTup, tgCons, tgN, tgNil, mk_Ratio_1, mk_Ratio_2, mCallO, lenO, runO, mRetO, mLst, mIf, mUn, dNegI, mIsT2, mNoP, mPart, oListC, mDrop, mNever, e1'], rfl, ?_⟩)
  refine wp_seq (wp_par ⟨B, F, p1, by simp [runD, env0, mSeq, mIfS, mNot, mB, mIsC, mVar, isC, mRet, mC, mTV, mAnd, mOr, mBin, mFld, dEqF, flV, retM, DL.bindM, mNx, mCall, lenM, mCons, mNil, mTup, mIsT, isT, mSet, mAsg, tgTup, tgCons, tgN, tgNil, mk_Ratio_1, mk_Ratio_2, mCallO, lenO, runO, mRetO, mLst, mIf, mUn, dNegI, mIsT2, mNoP, mPart, oListC, mDrop, mNever, u1, u2], rfl, ?_⟩)
  refine wp_seq (wp_par ⟨.lst B188, .lst B187, p1, ?_, rfl, ?_⟩)
  · have r1 := r188 .un
    have r2 := r187 .un
    show (mCons (mLst (mCallO (lenO 2 o_contrary_play) (mCons (mC (.int 3)) (mCons (mLst (oRep (mLst (mNew (mCons (mVar 1) mNil))) (mC (.int 188)))) mNil)))) (mCons (mLst (mCallO (lenO 2 o_contrary_play) (mCons (mC (.int 3)) (mCons (mLst (oRep (mLst (mNew (mCons (mVar 1) mNil))) (mC (.int 187)))) mNil)))) mNil)) [.val .pot, .val Md, .val B, .val F, .un, .un, .un, .un, .un, .un, .un] p1 = _
    generalize oRep (mLst (mNew (mCons (mVar 1) mNil))) (mC (.int 188)) = x1 at *
    generalize oRep (mLst (mNew (mCons (mVar 1) mNil))) (mC (.int 187)) = x2 at *
    simp [runD, env0, mSeq, mIfS, mNot, mB, mIsC, mVar, isC, mRet, mC, mTV, mAnd, mOr, mBin, mFld, dEqF, flV, retM, DL.bindM, mNx, mCall, lenM, mCons, mNil, mTup, mIsT, isT, mSet, mAsg, tgTup, tgCons, tgN, tgNil, mk_Ratio_1, mk_Ratio_2, mCallO, lenO, runO, mRetO, mLst, mIf, mUn, dNegI, mIsT2, mNoP, mPart, oListC, mDrop, mNever, r1, r2, c1, c2]
  show WP _ [.val .pot, .val Md, .val B, .val F, .val (.lst B188), .val (.lst B187), .un, .un, .un, .un, .un] p1 _
  refine wp_seq (wp_no ?_ ⟨rfl, ?_⟩)
  · have r1 := rb188 [.val .pot, .val Md, .val B, .val F, .val (.lst B188), .val (.lst B187), .un, .un, .un, .un, .un] rfl
    have r2 := rb187 [.val .pot, .val Md, .val B, .val F, .val (.lst B188), .val (.lst B187), .un, .un, .un, .un, .un] rfl
    generalize oRep (mLst (mNew (mCons (mVar 2) mNil))) (mC (.int 188)) = x1 at *
    generalize oRep (mLst (mNew (mCons (mVar 2) mNil))) (mC (.int 187)) = x2 at *
    funext q
    simp [runD, env0, mSeq, mIfS, mNot, mB, mIsC, mVar, isC, mRet, mC, mTV, mAnd, mOr, mBin, mFld, dEqF, flV, retM, DL.bindM, mNx, mCall, lenM, mCons, mNil, mTup, mIsT, isT, mSet, mAsg, tgTup, tgCons, tgN, tgNil, mk_Ratio_1, mk_Ratio_2, mCallO, lenO, runO, mRetO, mLst, mIf, mUn, dNegI, mIsT2, mNoP, mPart, oListC, mDrop, mNever, mNew, r1, r2, ht1, n1]
  refine wp_seq (wp_set ⟨.lst F375, p1, by simp [runD, env0, mSeq, mIfS, mNot, mB, mIsC, mVar, isC, mRet, mC, mTV, mAnd, mOr, mBin, mFld, dEqF, flV, retM, DL.bindM, mNx, mCall, lenM, mCons, mNil, mTup, mIsT, isT, mSet, mAsg, tgTup, tgCons, tgN, tgNil, mk_Ratio_1, mk_Ratio_2, mCallO, lenO, runO, mRetO, mLst, mIf, mUn, dNegI, mIsT2, mNoP, mPart, oListC, mDrop, mNever, a1, c3], rfl, ?_⟩)
  refine wp_seq (wp_set ⟨.lst B750, p1, by simp [runD, env0, mSeq, mIfS, mNot, mB, mIsC, mVar, isC, mRet, mC, mTV, mAnd, mOr, mBin, mFld, dEqF, flV, retM, DL.bindM, mNx, mCall, lenM, mCons, mNil, mTup, mIsT, isT, mSet, mAsg, tgTup, tgCons, tgN, tgNil, mk_Ratio_1, mk_Ratio_2, mCallO, lenO, runO, mRetO, mLst, mIf, mUn, dNegI, mIsT2, mNoP, mPart, oListC, mDrop, mNever, a2, c4, pickM, pick], rfl, ?_⟩)
  refine wp_seq (wp_set ⟨.lst F1500, p1, by simp [runD, env0, mSeq, mIfS, mNot, mB, mIsC, mVar, isC, mRet, mC, mTV, mAnd, mOr, mBin, mFld, dEqF, flV, retM, DL.bindM, mNx, mCall, lenM, mCons, mNil, mTup, mIsT, isT, mSet, mAsg, tgTup, tgCons, tgN, tgNil, mk_Ratio_1, mk_Ratio_2, mCallO, lenO, runO, mRetO, mLst, mIf, mUn, dNegI, mIsT2, mNoP, mPart, oListC, mDrop, mNever, a3, c5], rfl, ?_⟩)
  show WP _ [.val .pot, .val Md, .val B, .val F, .val (.lst B188), .val (.lst B187), .val (.lst F375), .val (.lst B750), .val (.lst F1500), .un, .un] p1 _
  refine wp_seq (wp_no ?_ ⟨rfl, ?_⟩)
  · have r1 := rf375 [.val .pot, .val Md, .val B, .val F, .val (.lst B188), .val (.lst B187), .val (.lst F375), .val (.lst B750), .val (.lst F1500), .un, .un] rfl
    have r2 := rb750 [.val .pot, .val Md, .val B, .val F, .val (.lst B188), .val (.lst B187), .val (.lst F375), .val (.lst B750), .val (.lst F1500), .un, .un] rfl
    have r3 := rf1500 [.val .pot, .val Md, .val B, .val F, .val (.lst B188), .val (.lst B187), .val (.lst F375), .val (.lst B750), .val (.lst F1500), .un, .un] rfl
    generalize oRep (mLst (mNew (mCons (mVar 3) mNil))) (mC (.int 375)) = x1 at *
    generalize oRep (mLst (mNew (mCons (mVar 2) mNil))) (mC (.int 750)) = x2 at *
    generalize oRep (mLst (mNew (mCons (mVar 3) mNil))) (mC (.int 1500)) = x3 at *
    funext q
    simp [runD, env0, mSeq, mIfS, mNot, mB, mIsC, mVar, isC, mRet, mC, mTV, mAnd, mOr, mBin, mFld, dEqF, flV, retM, DL.bindM, mNx, mCall, lenM, mCons, mNil, mTup, mIsT, isT, mSet, mAsg, tgTup, tgCons, tgN, tgNil, mk_Ratio_1, mk_Ratio_2, mCallO, lenO, runO, mRetO, mLst, mIf, mUn, dNegI, mIsT2, mNoP, mPart, oListC, mDrop, mNever, mNew, r1, r2, r3, ht2, n2]
  have pd' : o__law_played [.int 3, .lst F1500] = retM (dl.map .int) := pd
  have i1' : d_is_play [.int 3, .lst F1500] = retM (.bl true) := i1
  have i2' : d_is_play [.int 3, .lst (F1500 ++ [F])] = retM (.bl false) := i2
  have f1' : d_is_play_for [.int 3, .lst (dl.map .int), .lst F1500] = retM (.bl true) := f1
  have f2' : d_is_play_for [.int 3, .lst (dl.map .int), .lst (F1500 ++ [.tup [.str "turn", .int 1]])] = retM (.bl false) := f2
  have pl' : d_play_deal [.int 3, .lst F1500] = retM (.lst (dl.map .int)) := pl
  generalize dl.map D.int = DL0 at *
  refine wp_seq (wp_set ⟨.lst DL0, p1, by simp [runD, env0, mSeq, mIfS, mNot, mB, mIsC, mVar, isC, mRet, mC, mTV, mAnd, mOr, mBin, mFld, dEqF, flV, retM, DL.bindM, mNx, mCall, lenM, mCons, mNil, mTup, mIsT, isT, mSet, mAsg, tgTup, tgCons, tgN, tgNil, mk_Ratio_1, mk_Ratio_2, mCallO, lenO, runO, mRetO, mLst, mIf, mUn, dNegI, mIsT2, mNoP, mPart, oListC, mDrop, mNever, pd'], rfl, ?_⟩)
  refine wp_seq (wp_set ⟨.lst [.bl true, .bl false, .bl true, .bl false], p1, ?_, rfl, ?_⟩)
  · simp [runD, env0, mSeq, mIfS, mNot, mB, mIsC, mVar, isC, mRet, mC, mTV, mAnd, mOr, mBin, mFld, dEqF, flV, retM, DL.bindM, mNx, mCall, lenM, mCons, mNil, mTup, mIsT, isT, mSet, mAsg, tgTup, tgCons, tgN, tgNil, mk_Ratio_1, mk_Ratio_2, mCallO, lenO, runO, mRetO, mLst, mIf, mUn, dNegI, mIsT2, mNoP, mPart, oListC, mDrop, mNever, mNew, oCat, z1, i1', i2', f1', f2']
  · refine wp_ret ⟨.bl true, p1, ?_, .bl true, rfl, rfl, rfl⟩
    simp [runD, env0, mSeq, mIfS, mNot, mB, mIsC, mVar, isC, mRet, mC, mTV, mAnd, mOr, mBin, mFld, dEqF, flV, retM, DL.bindM, mNx, mCall, lenM, mCons, mNil, mTup, mIsT, isT, mSet, mAsg, tgTup, tgCons, tgN, tgNil, mk_Ratio_1, mk_Ratio_2, mCallO, lenO, runO, mRetO, mLst, mIf, mUn, dNegI, mIsT2, mNoP, mPart, oListC, mDrop, mNever, tt, n4, pl', ht3, n3]
theorem law_right {p : Pt} (hp : Good p) : ∃ p', d__law_right [.pot] p = some (.bl true, p') ∧ Good p' := by
  obtain ⟨w, p1, e1, w1, w2, g1⟩ := law_draw hp (many := 3) (by omega) (by omega)
  obtain ⟨d, p2, hd, e2, g2⟩ := law_pick g1 (ds := [.int 3, .int 5, .int 7, .int 11]) (by decide) (by decide)
  obtain ⟨n, hn, rfl⟩ : ∃ n : Nat, isP n ∧ d = .int (n : Nat) := by
    simp only [List.mem_cons, List.not_mem_nil, or_false] at hd
    rcases hd with rfl | rfl | rfl | rfl
    · exact ⟨3, .inl rfl, rfl⟩
    · exact ⟨5, .inr (.inl rfl), rfl⟩
    · exact ⟨7, .inr (.inr (.inl rfl)), rfl⟩
    · exact ⟨11, .inr (.inr (.inr rfl)), rfl⟩
  obtain ⟨p3, e3, g3⟩ := law_deals hn g2
  obtain ⟨p4, e4, g4⟩ := law_plays hn g3
  by_cases hw : 0 < w
  · refine ⟨p4, ?_, g4⟩
    simp [runD, env0, mSeq, mIfS, mNot, mB, mIsC, mVar, isC, mRet, mC, mTV, mAnd, mOr, mBin, mFld, dEqF, flV, retM, DL.bindM, mNx, mCall, lenM, mCons, mNil, mTup, mIsT, isT, mSet, mAsg, tgTup, tgCons, tgN, tgNil, mk_Ratio_1, mk_Ratio_2, mCallO, lenO, runO, mRetO, mLst, mIf, mUn, dNegI, mIsT2, mNoP, mPart, oListC, mDrop, mNever, d__law_right, m__law_right, mPar, e1, mNew, e2, e3, e4, dGt, dII, hw]
  · obtain ⟨p5, e5, g5⟩ := law_long g4
    refine ⟨p5, ?_, g5⟩
    simp [runD, env0, mSeq, mIfS, mNot, mB, mIsC, mVar, isC, mRet, mC, mTV, mAnd, mOr, mBin, mFld, dEqF, flV, retM, DL.bindM, mNx, mCall, lenM, mCons, mNil, mTup, mIsT, isT, mSet, mAsg, tgTup, tgCons, tgN, tgNil, mk_Ratio_1, mk_Ratio_2, mCallO, lenO, runO, mRetO, mLst, mIf, mUn, dNegI, mIsT2, mNoP, mPart, oListC, mDrop, mNever, d__law_right, m__law_right, mPar, e1, mNew, e2, e3, e4, dGt, dII, hw, e5]
theorem hright (a b : Int) (ha : 0 ≤ a) (hb : 0 ≤ b) (hb2 : b < 2147483648) : ∃ p', d__law_right [.pot] (a, b) = some (.bl true, p') := by
  obtain ⟨p', h, _⟩ := law_right (p := (a, b)) ⟨ha, hb, hb2⟩
  exact ⟨p', h⟩
end Q
end

section
set_option Elab.async false
set_option linter.all false
set_option maxRecDepth 100000
set_option maxHeartbeats 4000000
/-! DL: the law's def called at the caller's frame, where no repr is under way. -/
namespace DL
open PySem PySem.Spec PyProof.Rows L2
/-- the promise of a law's def: at a list of ints, True -/
def spTrue (K : Fr') (n : Nat) : Sp := fun vs H Q _ => ∃ (t : Addr) (ns : List Int), vs = [.ref t] ∧ ns.length ≤ n ∧ Only H ∧ SqL K H t (ns.map V.int) ∧ ∀ H1, (∀ b o, H b = some o → H1 b = some o) → Q (.bl true) H1
theorem run_law {P : Program} {w : World} {K : Fr'} {mg mb : Str → Option Value} {n k : Nat} {f t : Addr} {fd : FuncData} {x : Str} {S : Shared} {us : List Value} {ns : List Int} (hK : K.In S.heap) (hG : S.heap.Ns mainGlobals mg) (hB : S.heap.Ns builtinsNs mb)
    (hbo : ∀ y : Str, y ≠ "__name__" → mb y = bootBuiltins y) (hno : S.heap.NoLimit) (hgen : S.gens = #[]) (ht : S.heap.get? t = some { cls := .type "list", data := .seq us.toArray }) (hus : IntsAre us ns) (hn : ns.length ≤ n) (hns : ns.length ≤ sizeLine) (room : Room k callerA)
    (F : ∀ base : Heap, K.In base → base.Ns mainGlobals mg → FnD true P w K mg base k f fd [x] (spTrue K n)) (hbd : ∀ (s : Shared) (u : Value), BindsTo s fd ⟨[u], []⟩ [(x, u)]) :
    codeAny (model P w) callerA (.call (.ref f) ⟨[.ref t], []⟩) (fun r s' => r = .ok (.ret (.bool true)) ∧ OldK S.heap s'.heap ∧ s'.os = S.os ∧ AllBare s'.gens) S := by
  have vals := vals_ints hus
  have ul := hus.length
  -- the abstract heap: the script alone, or nothing
  have main : ∀ G : Hp, Only G → SqL K G t (ns.map V.int) → HOk P w G S.heap → (∀ b, G b ≠ none → b = t ∧ K.lookup b = none) →
      codeAny (model P w) callerA (.call (.ref f) ⟨[.ref t], []⟩) (fun r s' => r = .ok (.ret (.bool true)) ∧ OldK S.heap s'.heap ∧ s'.os = S.os ∧ AllBare s'.gens) S := by
    intro G gO gS gok gT
    have keep : ∀ (b : Addr) (o : Obj), S.heap.get? b = some o → G b = none → (hidT S.heap G).get? b = some o := fun b o h z => hidT_get h z
    have free : ∀ (b : Addr) (o : Obj) (es : Array DictEntry) (ep : Nat), S.heap.get? b = some o → o.data = .dict es ep → G b = none := by
      intro b o es ep h hd
      rcases z : G b with _ | u
      · rfl
      · obtain ⟨e1, _⟩ := gT b (by rw [z]; exact fun y => nomatch y)
        rw [e1, ht] at h
        cases h
        exact nomatch (show Data.seq us.toArray 0 = Data.dict es ep from hd)
    have nsp : ∀ (b : Addr) (m : Str → Option Value), S.heap.Ns b m → (hidT S.heap G).Ns b m := by
      rintro b m ⟨o, es, ep, h, hd, r⟩
      exact ⟨o, es, ep, keep b o h (free b o es ep h hd), hd, r⟩
    have kb : K.In (hidT S.heap G) := by
      intro b o h
      refine keep b o (hK b o h) ?_
      rcases z : G b with _ | u
      · rfl
      · obtain ⟨_, e2⟩ := gT b (by rw [z]; exact fun y => nomatch y)
        rw [h] at e2
        cases e2
    have mod : Mod K mg (hidT S.heap G) := by
      obtain ⟨mc, n1, n2⟩ := hno
      exact ⟨kb, nsp _ _ hG, ⟨mb, nsp _ _ hB, hbo⟩, ⟨mc, nsp _ _ n1, n2⟩⟩
    have en : Env0 P w K mg (hidT S.heap G) callerA [] S G := by
      refine ⟨rfl, mod, fun b o h => of_hidT h, Nat.le_of_eq (hidT_size _ _), trivial, fun b hb => ?_, gok, .of_eq hgen⟩
      exact nomatch (show b ∈ ([] : List Addr) from hb)
    have go := (F _ kb (nsp _ _ hG)).run callerA [] S G ⟨[.ref t], []⟩ [.ref t] [.ref t] (fun v H1 => v = .bl true) E0 room (fun _ => rfl) en (hbd S (.ref t)) (.cons rfl .nil) ⟨t, ns, rfl, hn, gO, gS, fun _ _ => rfl⟩
    refine codeAny_mono go fun r s' h => ?_
    rcases r with e | fl
    · exact h.elim
    · cases fl with
      | next => exact h.elim
      | brk => exact h.elim
      | cont => exact h.elim
      | ret u =>
        obtain ⟨v, G1, hos, hbare, hun, gok1, rel, hv⟩ := h
        have hv' : v = .bl true := hv
        subst hv'
        have hu : u = Value.bool true := rel
        subst hu
        refine ⟨rfl, OldK.of_keep fun b o hb => ?_, hos, hbare⟩
        rcases z : G b with _ | w1
        · exact hun.keep b o hb z (fun y => nomatch (show b ∈ ([] : List Addr) from y)) (by simp)
        · rcases gO b with y | ⟨ob, xs, y⟩
          · rw [z] at y; cases y
          · have y1 := hun.frzs b ob _ y
            have q1 := (gok b _ y).1
            have q2 := (gok1 b _ y1).1
            rw [hb] at q1
            cases q1
            exact q2
  rcases hk : K.lookup t with _ | o
  · obtain ⟨G, hG1⟩ : ∃ G : Hp, ∀ b, G b = if b = t then some (HO.frz { cls := .type "list", data := .seq us.toArray } (.lst (ns.map V.int))) else none := ⟨_, fun _ => rfl⟩
    have sc : G t = some (.frz { cls := .type "list", data := .seq us.toArray } (.lst (ns.map V.int))) := by rw [hG1, if_pos rfl]
    refine main G (fun b => ?_) (.inl (.inr ⟨_, sc⟩)) (fun b u hb => ?_) fun b hb => ?_
    · rw [hG1]
      by_cases z : b = t
      · exact .inr ⟨_, _, if_pos z⟩
      · exact .inl (if_neg z)
    · rw [hG1] at hb
      by_cases z : b = t
      · subst z
        rw [if_pos rfl] at hb
        cases hb
        exact ⟨ht, by rw [List.length_map]; exact hns, us, 0, vals, ht⟩
      · rw [if_neg z] at hb
        cases hb
    · rw [hG1] at hb
      by_cases z : b = t
      · exact ⟨z, by rw [z]; exact hk⟩
      · exact absurd (if_neg z) hb
  · have h1 := hK t o hk
    rw [ht] at h1
    cases h1
    refine main (fun _ => none) (fun _ => .inl rfl) (.inr ⟨_, us.toArray, 0, hk, rfl, rfl, rfl, by rw [List.size_toArray, ul]; exact hns, by simpa using vals⟩) (fun b u hb => nomatch (show (none : Option HO) = some u from hb)) fun b hb => absurd rfl hb
/-- the end of a law's proof -/
theorem walk_law {l : PySem.W.OpenLaw} {n k : Nat} {q : Program} {loose : List Str} {XP : (Str → Option Value) → Heap → Prop} {YP : World → Heap → Prop} {d : DefRec} {x : Str} (hn : l.most = some n) (hn2 : n ≤ sizeLine) (hdf : d.params.defaults = []) (hr : Room k callerA)
    (F : ∀ (w : World) (mg : Str → Option Value) (f : Addr) (h : Heap), YP w h → h.Ns mainGlobals mg → mg d.name = some (.ref f) →
      ∃ (K : Fr') (fd : FuncData), K.In h ∧ (∀ (s : Shared) (u : Value), BindsTo s fd ⟨[u], []⟩ [(x, u)]) ∧ ∀ base : Heap, K.In base → base.Ns mainGlobals mg → FnD true l.prog w K mg base k f fd [x] (spTrue K n)) :
    PySem.W.WalkO q loose XP YP l.row.toRowW d [] (fun g vs => PySem.call g vs) := by
  refine Att.attach_call hn hdf ?_
  intro w s0 S mg mb f o pm cd doc t us ns G Y ho hd hcd hmg hobj hints hlen hg
  obtain ⟨K, fd, hK, hb, hF⟩ := F w mg f _ Y G.T.g hmg
  exact run_law hK G.T.g G.T.b G.T.builtins G.T.nolimit hg hobj hints hlen (Nat.le_trans hlen hn2) hr hF hb
section
variable {X : Cx} {g : Bool} {k : Nat} {f : Addr} {fd : FuncData} {ps : List Str} {sp : Sp} {x : Str} {p pos : Pos} {e : Expr} {es : List Expr} {ta : TA}
/-- f(e, ..) by a promise of any kind -/
theorem pe_callD (F : FnD g X.prog X.w X.K X.mg X.base k f fd ps sp) (hr : Room k X.A) (hgd : g = true → X.A.guards = some []) (hm : X.mg x = some (.ref f)) (hk : PySem.W.keepIn X.K (.ref f) = true) (hb : Binds X.K fd ps []) (ha : PA X (e :: es) ta) (hg : Gl X x := by rfl)
    (hdb : (x == ("__debug__" : Str)) = false := by decide) (he : starEach (e :: es) X.env = (false, eval e X.env) :: starEach es X.env := by rfl) (hpl : (backTo pos (starEach es X.env)).any (·.1) = false := by rfl) :
    PE X (.Call (.Name x p) (e :: es) [] pos) (tCl sp ta) := by
  refine ⟨fun pins s σ H Q I h => ?_⟩
  refine wpAny_Call_Name_kw (ld_glob I hg hm ?_ hdb)
  refine PySem.W.callWith_K (h₀ := X.base) I.ok.mod.kin hk (thn (ha.run pos pins s σ H _ I h) fun us s1 hq => ?_) he hpl
  obtain ⟨vs, H1, I1, r, q⟩ := hq
  refine ⟨I1.kIn, ?_⟩
  have hb1 := hb s1 us I1.kIn (by rw [List.append_nil, ← r.length]; exact F.len _ _ _ _ q)
  rw [List.append_nil] at hb1
  exact call_d (pv := us) (kw := []) F hr hgd hb1 I1 r q
end
end DL
end

section
set_option Elab.async false
set_option linter.all false
set_option maxRecDepth 100000
set_option maxHeartbeats 4000000
namespace Q
open PySem PySem.Spec PyProof.Rows L2 DL
def N_pot : List Str := ["script", "k", "cell"]
theorem S_pot : FnScope N_pot ["script", "k"] (defScope (top 49)) := ⟨rfl, rfl, rfl, by decide +kernel, rfl, by decide +kernel, by decide +kernel⟩
/-- a new pot, out of the script's k-th number -/
def spPot (K : Fr') : Sp := fun vs H Q _ => ∃ (t : Addr) (ns : List Int) (k : Nat), vs = [.ref t, .int k] ∧ k < 64 ∧ ns.length ≤ 63 ∧ SqL K H t (ns.map V.int) ∧
  ∀ (a b : Int) t', 0 ≤ a → 0 ≤ b → b < 2147483648 → H t' = none → Q (.ref t') (upd H t' (.lst [.int a, .int b]))
section
variable {P : Program} {w : World} {K : Fr'} {mg : Str → Option Value} {base : Heap}
theorem b_pot (Z : Zx P w K mg base) (cdv : Value) (A : Around) (outer : List Env) (s : Shared) (H : Hp) (E : XK) (vs : List V) (Q : VK) (h : spPot K vs H Q E) :
    ∃ t, PSs (cx0 P w K mg base N_pot "_law_pot" (defScope (top 49)) (He.ga K "_law_pot") cdv A outer s H E) (defBody (top 49)) t ∧ t { nx := fun _ H' => Q .non H', rt := Q } (L2.start N_pot vs) H := by
  refine ⟨_, pss_cons (ps_set (i := 2) S_pot.nd rfl (Or.inl rfl) (pe_op op_add (pe_op op_mulW pe_int (pe_var (i := 1) rfl (Or.inl rfl))) pe_int) rfl (.inl rfl))
    (pss_cons (ps_if (pt_cmpR op_lt (pe_var (i := 1) rfl (Or.inl rfl)) (pe_callB call_len_seq rfl Z.fr_len (by decide +kernel) (L2.pa_cons (pe_var (i := 0) rfl (Or.inl rfl)) L2.pa_nil)) rfl)
      (pss_one (ps_set (i := 2) S_pot.nd rfl (Or.inl rfl) (pe_callB call_abs rfl Z.fr_abs (by decide +kernel) (L2.pa_cons (pe_ix ix_seq (pe_var (i := 0) rfl (Or.inl rfl)) (pe_var (i := 1) rfl (Or.inl rfl)) (fun _ _ => rfl)) L2.pa_nil)) rfl (.inl rfl))) pss_nil)
    (pss_one (ps_ret (pe_lst (L2.pa_cons (pe_callB (call_max2 rfl) rfl Z.fr_max (by decide +kernel) (L2.pa_cons pe_int (L2.pa_cons (pe_op op_sub (pe_var (i := 2) rfl (Or.inl rfl)) (pe_op op_pow pe_int pe_int)) L2.pa_nil)))
      (L2.pa_cons (pe_op op_add (pe_op op_mod (pe_callTy call_int1 rfl Z.fr_int (by decide +kernel) (L2.pa_cons (pe_op op_add (pe_op op_add (pe_op op_mulW (pe_op op_mod (pe_callTy call_int1 rfl Z.fr_int (by decide +kernel) (L2.pa_cons (pe_var (i := 2) rfl (Or.inl rfl)) L2.pa_nil)) pe_int) pe_int) (pe_op op_mulW pe_int (pe_var (i := 1) rfl (Or.inl rfl)))) pe_int) L2.pa_nil)) pe_int) pe_int) L2.pa_nil)))))), ?_⟩
  obtain ⟨t, ns, k, rfl, hk, hn, hs, q⟩ := h
  have cm : ∀ (i j : Int), i.natAbs < 2 ^ 64 → j.natAbs < 2 ^ 64 → CMulW i j := fun i j h1 h2 => by
    have g1 := PySem.W.mg_log (k := 63) h1
    have g2 := PySem.W.mg_log (k := 63) h2
    unfold CMulW
    omega
  have cp : CPow 10 18 := by unfold CPow; decide +kernel
  have hz : ∀ x y : V, [x, y].length ≤ sizeLine := fun x y => sz100 (by simp)
  refine ⟨.int k, rfl, _, _, rfl, rfl, cm _ _ (by omega) (by omega), _, _, rfl, rfl, ?_⟩
  refine ⟨.int k, rfl, .ref t, rfl, t, _, rfl, .inl hs, _, _, rfl, rfl, _, rfl, ?_⟩
  show (if decide (_ < _) = true then _ else _)
  by_cases hlt : (k : Int) < ((ns.map V.int).length : Int)
  · rw [if_pos (decide_eq_true hlt)]
    have hat : atI (ns.map V.int) (k : Int) = some (.int (ns.getD k 0)) := by
      have h1 : k < ns.length := by rw [List.length_map] at hlt; omega
      unfold atI ixN
      rw [if_pos (by omega), if_pos hlt]
      show (ns.map V.int)[((k : Int)).toNat]? = _
      rw [Int.toNat_natCast, List.getElem?_map, List.getElem?_eq_getElem h1, List.getD_eq_getElem?_getD, List.getElem?_eq_getElem h1]
      rfl
    refine ⟨.ref t, rfl, .int k, rfl, .inl ⟨t, _, _, .int (ns.getD k 0), rfl, rfl, hs, hat, _, rfl, ?_⟩⟩
    generalize (if ns.getD k 0 < 0 then -(ns.getD k 0) else ns.getD k 0) = c
    exact ⟨.int c, rfl, _, _, rfl, rfl, cp, _, _, rfl, rfl, _, _, rfl, .int c, rfl, .inl ⟨c, rfl, _, _, rfl, rfl, by omega, _, _, rfl, rfl, cm _ _ (by omega) (by omega), .int k, rfl, _, _, rfl, rfl, cm _ _ (by omega) (by omega), _, _, rfl, rfl, _, _, rfl, rfl,
      .inl ⟨_, rfl, _, _, rfl, rfl, by omega, _, _, rfl, rfl, hz _ _, fun p hp => q _ _ p (by split <;> omega) (by omega) (by omega) hp⟩⟩⟩
  · rw [if_neg (fun z => hlt (of_decide_eq_true z))]
    exact ⟨.int (1019 * (k : Int) + 613), rfl, _, _, rfl, rfl, cp, _, _, rfl, rfl, _, _, rfl, .int (1019 * (k : Int) + 613), rfl, .inl ⟨1019 * (k : Int) + 613, rfl, _, _, rfl, rfl, by omega, _, _, rfl, rfl, cm _ _ (by omega) (by omega), .int k, rfl, _, _, rfl, rfl, cm _ _ (by omega) (by omega), _, _, rfl, rfl, _, _, rfl, rfl,
      .inl ⟨_, rfl, _, _, rfl, rfl, by omega, _, _, rfl, rfl, hz _ _, fun p hp => q _ _ p (by split <;> omega) (by omega) (by omega) hp⟩⟩⟩
theorem w_pot (Z : Zx P w K mg base) : ∃ fd, FnD false P w K mg base 1 (He.ga K "_law_pot") fd ["script", "k"] (spPot K) ∧ PySem.W.keepIn K (.ref (He.ga K "_law_pot")) = true ∧ Binds K fd ["script", "k"] [] := by
  obtain ⟨fd, D⟩ := Z.says.def_ 34 (d := z__law_pot)
  refine ⟨fd, fn_enter (k := 0) D S_pot (fun vs H Q E h => ?_) (fun cdv A outer s H vs Q E hr hg h => b_pot Z cdv A outer s H E vs Q h), D.kp, D.bindsN (fun _ _ _ _ _ _ us hl => match us, hl with
    | [a0, a1], _ => rfl)⟩
  obtain ⟨t, ns, k, rfl, _⟩ := h
  rfl
def N_law : List Str := ["script", "k"]
theorem S_law : FnScope N_law ["script"] (defScope (top 67)) := ⟨rfl, rfl, rfl, by decide +kernel, rfl, by decide +kernel, by decide +kernel⟩
theorem b_law (Z : Zx P w K mg base) (hright : ∀ a b : Int, 0 ≤ a → 0 ≤ b → b < 2147483648 → ∃ p', d__law_right [.pot] (a, b) = some (.bl true, p')) (cdv : Value) (A : Around) (outer : List Env) (s : Shared) (H : Hp) (E : XK) (hr : Room 11 (A.deeper (envOfC "law" (defScope (top 67)) s.heap.objs.size (He.ga K "law") cdv))) (hg : A.guards = some []) (vs : List V) (Q : VK) (h : spTrue K 63 vs H Q E) :
    ∃ t, PSs (cx0 P w K mg base N_law "law" (defScope (top 67)) (He.ga K "law") cdv A outer s H E) (defBody (top 67)) t ∧ t { nx := fun _ H' => Q .non H', rt := Q } (L2.start N_law vs) H := by
  obtain ⟨fdp, Fp, hkp, hbp⟩ := w_pot Z
  obtain ⟨fdr, Fr, _, hkr, hbr, _⟩ := w__law_right Z
  refine ⟨_, pss_one (ps_ret (pe_callB (cr_all rfl) rfl Z.fr_all (by decide +kernel) (L2.pa_cons (pe_lc (own := [("k", 1)]) rfl S_law.nd (pi_range1 rfl Z.fr_range (L2.pa_cons (pe_callB (call_max2 rfl) rfl Z.fr_max (by decide +kernel) (L2.pa_cons pe_int (L2.pa_cons (pe_callB (call_min2 rfl) rfl Z.fr_min (by decide +kernel) (L2.pa_cons pe_int (L2.pa_cons (pe_callB call_len_seq rfl Z.fr_len (by decide +kernel) (L2.pa_cons (pe_var (i := 0) rfl (.inr (.inl rfl))) L2.pa_nil)) L2.pa_nil))) L2.pa_nil))) L2.pa_nil))
    (blkOk_by rfl) (fun _ _ _ _ _ => pg_name (i := 1) S_law.nd rfl (Or.inl rfl)) (fun _ _ _ _ _ => pts_nil)
    (fun _ _ _ _ _ => pe_callD Fr (hr.mono (by decide)) (fun _ => hg) (Z.glo__law_right) hkr hbr (L2.pa_cons (pe_callD Fp (hr.mono (by decide)) (fun (z : false = true) => nomatch z) (Z.glo__law_pot) hkp hbp (L2.pa_cons (pe_var (i := 0) rfl (by first | exact Or.inl rfl | exact Or.inr (Or.inl rfl) | exact Or.inr (Or.inr rfl))) (L2.pa_cons (pe_var (i := 1) rfl (Or.inl rfl)) L2.pa_nil))) L2.pa_nil))) L2.pa_nil))), ?_⟩
  obtain ⟨t, ns, rfl, hn, hO, hs, q⟩ := h
  have hjn : ∃ j : Nat, j ≤ 2 ∧ ((if (if ((ns.map V.int).length : Int) < 2 then ((ns.map V.int).length : Int) else 2) > 1 then (if ((ns.map V.int).length : Int) < 2 then ((ns.map V.int).length : Int) else 2) else 1) : Int) = (j : Int) := by
    split <;> split <;> first | exact ⟨2, by omega, by omega⟩ | exact ⟨1, by omega, by omega⟩ | exact ⟨(ns.map V.int).length, by omega, by omega⟩
  obtain ⟨j, hj, hje⟩ := hjn
  refine ⟨.ref t, rfl, t, _, rfl, .inl hs, _, _, rfl, _, _, rfl, _, rfl, ?_, ?_, ?_⟩
  · exact Int.le_trans (by omega) (Int.le_of_eq hje.symm)
  · exact Int.lt_of_le_of_lt (Int.le_of_eq hje) (by omega)
  intro D hD
  have rep1 : ∀ i : Nat, (List.replicate i true).map V.bl ++ [V.bl true] = (List.replicate (i + 1) true).map V.bl := fun i => by
    rw [List.replicate_succ', List.map_append]; rfl
  refine ⟨fun i m H' => m = j - i ∧ i ≤ j ∧ H' D = some (.lst ((List.replicate i true).map V.bl)) ∧ ∀ b o, H b = some o → H' b = some o, ⟨_, rfl, Nat.zero_le _, upd_same, fun b o hb => ?_⟩, ?_⟩
  · rw [upd_ne (fun z => by rw [z, hD] at hb; cases hb)]; exact hb
  rintro i m H' ⟨rfl, hij, hDl, hfr⟩
  have hjn2 : (Int.toNat _) = j := (congrArg Int.toNat hje).trans (Int.toNat_natCast j)
  by_cases hlt : i < j
  · right
    refine ⟨Nat.lt_of_lt_of_eq hlt hjn2.symm, fun H2 => H2 D = some (.lst ((List.replicate (i + 1) true).map V.bl)) ∧ ∀ b o, H b = some o → H2 b = some o, fun H2 hq => ⟨j - (i + 1), by omega, rfl, hlt, hq.1, hq.2⟩, fun x H2 hy => ?_⟩
    obtain ⟨rfl, rfl⟩ := hy
    refine ⟨rfl, ?_⟩
    unfold tYes
    dsimp only
    rw [if_pos rfl]
    refine ⟨.ref t, rfl, .int (0 + (i : Int)), rfl, t, ns, i, by rw [Int.zero_add], by omega, hn, hs.ext hfr, fun a b t' ha hb hb2 ht' => ?_⟩
    obtain ⟨p', hp'⟩ := hright a b ha hb hb2
    have hDt : D ≠ t' := fun z => by rw [← z, hDl] at ht'; cases ht'
    have hE : Evl.Ex (fun _ => none) (upd H2 t' (.lst [.int a, .int b])) := fun b o z => nomatch (show (none : Option HO) = some o from z)
    have hR : Reps K (csK K) t' (fun _ => none) [DL.D.pot] [V.ref t'] := reps_cons (show Rep K (csK K) t' (fun _ => none) .pot (.ref t') by simp only [Rep]) reps_nil
    refine ⟨t', fun _ => none, [DL.D.pot], (a, b), _, p', rfl, hE, upd_same, rfl, hR, hp', fun B' H4 v n hp4 r => ?_⟩
    simp only [Rep] at r
    subst r
    have hD4 : H4 D = some (.lst ((List.replicate i true).map V.bl)) := n.fr D _ (by rw [upd_ne hDt]; exact hDl) hDt
    refine ⟨_, hD4, ?_, ?_, fun b o hb => ?_⟩
    · rw [List.length_map, List.length_replicate, sizeLine_eq]; omega
    · rw [upd_same, rep1]
    · have h1 : b ≠ D := fun z => by rw [z, hD] at hb; cases hb
      have h2 : H2 b = some o := hfr b o hb
      have h3 : b ≠ t' := fun z => by rw [z, ht'] at h2; cases h2
      rw [upd_ne h1]
      exact n.fr b o (by rw [upd_ne h3]; exact h2) h3
  · left
    have : i = j := by omega
    subst this
    refine ⟨Nat.le_of_eq hjn2, ?_⟩
    refine ⟨D, List.replicate i true, rfl, SqL.of hDl, ?_⟩
    rw [show (List.replicate i true).all id = true by simp]
    exact q H' hfr
theorem w_law (Z : ∀ base, Zx P w K mg base) (hright : ∀ a b : Int, 0 ≤ a → 0 ≤ b → b < 2147483648 → ∃ p', d__law_right [.pot] (a, b) = some (.bl true, p')) : ∃ fd, (∀ base, FnD true P w K mg base 12 (He.ga K "law") fd ["script"] (spTrue K 63)) ∧ ∀ (s : Shared) (u : Value), BindsTo s fd ⟨[u], []⟩ [("script", u)] := by
  obtain ⟨fd, D⟩ := (Z { objs := #[] }).says.def_ 52 (d := z_law)
  refine ⟨fd, fun base => fn_enter (k := 11) D S_law (fun vs H Q E h => ?_) (fun cdv A outer s H vs Q E hr hg h => b_law (Z base) hright cdv A outer s H E hr (hg rfl) vs Q h), fun s u => ?_⟩
  · obtain ⟨t, ns, rfl, _⟩ := h
    rfl
  · have b := FunD.bindsA (ps := ["script"]) D fun _ _ _ _ _ _ us hl => match us, hl with | [_], _ => rfl
    exact b s [u] rfl
end
end Q
end

section
set_option Elab.async false
set_option linter.all false
set_option maxRecDepth 100000
set_option maxHeartbeats 0
namespace Q
open PySem PySem.Spec PyProof.Rows L2 DL
end Q
open PySem PySem.W PySem.Calls PyProof.Rows
theorem PySem.Challenge.cw_sheetdeals_k42_any_value_as_deal_and_pla_holds : PySem.Challenge.rw_sheetdeals_k42_any_value_as_deal_and_pla.Holds := by
  w_on; o_law
  refine HandSHeadRun.head_imp (r := OpenLaw.row PySem.Challenge.rw_sheetdeals_k42_any_value_as_deal_and_pla) (q := view (OpenLaw.row PySem.Challenge.rw_sheetdeals_k42_any_value_as_deal_and_pla).prog [0, 67]) (H := Q.hk) (ob := Q.ob) (M := 9000) (loose := Q.looseAll) (d := HandSHeadRun.topDef (OpenLaw.row PySem.Challenge.rw_sheetdeals_k42_any_value_as_deal_and_pla).prog 67) (kwd := []) Q.ob_eq
    Q.run (by kernel_rfl) (by kernel_rfl) (by kernel_rfl) (by rfl) (by first | assumption | decide +kernel) (by decide +kernel) ⟨rfl, rfl, rfl, rfl, rfl, by decide +kernel⟩ ?hw ?hc
  case hw => w_witness2
  case hc =>
    refine DL.walk_law (l := PySem.Challenge.rw_sheetdeals_k42_any_value_as_deal_and_pla) (n := 63) (k := 12) (x := "script") rfl (by decide) (by kernel_rfl) ⟨rfl, by decide, by decide⟩ ?F
    intro w mg fa h Y G hmg0
    obtain ⟨K, KX, c⟩ := Y
    have hmg : mg ("law" : PySem.Str) = some (.ref fa) := by
      have e : (HandSHeadRun.topDef (OpenLaw.row PySem.Challenge.rw_sheetdeals_k42_any_value_as_deal_and_pla).prog 67).name = ("law" : PySem.Str) := by kernel_rfl
      rw [← e]
      exact hmg0
    have Z0 : ∀ base : Heap, Q.Zx PySem.Challenge.rw_sheetdeals_k42_any_value_as_deal_and_pla.prog w K mg base := fun base => ⟨c, ⟨h, KX, G⟩⟩
    have e := hmg.symm.trans (Z0 h).glo_law
    cases e
    obtain ⟨fd, hF, hb⟩ := Q.w_law Z0 Q.hright
    exact ⟨K, fd, KX, hb, fun base _ _ => hF base⟩
end
