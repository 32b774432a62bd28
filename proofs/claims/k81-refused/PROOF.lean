import PyProof.Rows.All
import Wide.All
import OpenK.AllK
import Wide.FinOn
import HandS.ForMost
import HandS.Walk
import HandS.ForExc
import HandS.Lambda
import HandS.CallSlots
import HandS.ExcCtx
import HandS.HotCalls
import HandS.TupAny
import HandS.Style
import HandS.Wide
import HandS.WideBits
import PyProof.StrOps2
import HandS.DictEq
import KE.KEqDict
import HandS.Steps
import HandS.Codes
import HandS.IsInst
import HandS.Defaults
import HandS.Head0
import HandS.Head1
import HandS.Head2
import HandS.HeadEnd
import HandS.EndTab
import HandS.HeadWalk
import HandS.HeadHook1
import HandS.HeadHook2
import HandS.HeadHook3
import HandS.HeadHook4
import KE.KRevSl
import KE.KTupTabMore
import KE.KDictCopyH
import KE.KExcIs
import HandS.NestedK
import KE.KDictList
import HandS.Conv
import HandS.More
import HandS.Strs
import PyProof.StrCalls6
import HandS.Text
import KE.GoesMore
import PyProof.Draws
import PyProof.EnumMake
import HandS.Replace
import HandS.ReplaceLit
import PyProof.ToksMono
import HandS.ReplaceList
import HandS.Deep
import PySem.Challenge.RW_twokeys_k81_lessons_refused
set_option Elab.async false
set_option linter.all false
set_option maxRecDepth 100000
set_option maxHeartbeats 0
/-! DL1: data D, its place in the heap, the store of what may change, the state's relation, readings by total functions. -/
namespace DL
open PySem PySem.Spec L2

theorem nr {α : Sort u} {a b : α} (h : a = b) : a = b := h
/-- plain data; loc n: the n-th cell of the store -/
inductive D where
  | non | bl (b : Bool) | int (i : Int) | str (x : Str)
  | tup (ds : List D) | lst (ds : List D) | frz (ds : List D) | dct (kvs : List (Key × D)) | loc (n : Nat) | xc (a C : Addr)
  deriving Inhabited

/-- what may change -/
inductive Cell where
  | lst (ds : List D) | dct (kvs : List (Key × D)) | ins (C : Addr) (fs : List (Str × D)) | dead
  deriving Inhabited
abbrev Store := List Cell
abbrev DEnv := List (Option D)

mutual
inductive Rp (K : PySem.W.Frag) (m : List Addr) (G : Hp) : V → D → Prop
  | non : Rp K m G .non .non
  | bl (b : Bool) : Rp K m G (.bl b) (.bl b)
  | int (i : Int) : Rp K m G (.int i) (.int i)
  | str (x : Str) : Rp K m G (.str x) (.str x)
  | tup {a : Addr} {xs : List V} {ds : List D} : SqT K G a xs → RpL K m G xs ds → Rp K m G (.ref a) (.tup ds)
  | lst {a : Addr} {xs : List V} {ds : List D} : G a = some (.lst xs) → RpL K m G xs ds → Rp K m G (.ref a) (.lst ds)
  | frz {a : Addr} {xs : List V} {ds : List D} : SqL K G a xs → RpL K m G xs ds → Rp K m G (.ref a) (.frz ds)
  | dct {a : Addr} {ks : List (Key × V)} {kvs : List (Key × D)} : Rd G a (.dK ks) → RpK K m G ks kvs → Rp K m G (.ref a) (.dct kvs)
  | loc {a : Addr} {n : Nat} : m[n]? = some a → Rp K m G (.ref a) (.loc n)
  | xc (a C : Addr) : Rp K m G (.ref a) (.xc a C)
inductive RpL (K : PySem.W.Frag) (m : List Addr) (G : Hp) : List V → List D → Prop
  | nil : RpL K m G [] []
  | cons {v : V} {vs : List V} {d : D} {ds : List D} : Rp K m G v d → RpL K m G vs ds → RpL K m G (v :: vs) (d :: ds)
inductive RpK (K : PySem.W.Frag) (m : List Addr) (G : Hp) : List (Key × V) → List (Key × D) → Prop
  | nil : RpK K m G [] []
  | cons {k : Key} {v : V} {vs : List (Key × V)} {d : D} {ds : List (Key × D)} : Rp K m G v d → RpK K m G vs ds → RpK K m G ((k, v) :: vs) ((k, d) :: ds)
end
/-- named fields -/
inductive RpF (K : PySem.W.Frag) (m : List Addr) (G : Hp) : List (Str × V) → List (Str × D) → Prop
  | nil : RpF K m G [] []
  | cons {k : Str} {v : V} {vs : List (Str × V)} {d : D} {ds : List (Str × D)} : Rp K m G v d → RpF K m G vs ds → RpF K m G ((k, v) :: vs) ((k, d) :: ds)

section
variable {K : PySem.W.Frag} {m m' : List Addr} {G G' : Hp}
theorem sqL_mono (hg : ∀ a u, Rd G a u → Rd G' a u) {a : Addr} {xs : List V} (h : SqL K G a xs) : SqL K G' a xs := h.imp (hg _ _) id
theorem sqT_mono (hg : ∀ a u, Rd G a u → Rd G' a u) {a : Addr} {xs : List V} (h : SqT K G a xs) : SqT K G' a xs := h.imp (hg _ _) id
mutual
theorem Rp.monoN (hm : ∀ (n : Nat) (a : Addr), m[n]? = some a → m'[n]? = some a) (hl : ∀ a xs, G a = some (.lst xs) → G' a = some (.lst xs)) (hg : ∀ a u, (∀ o w, u ≠ HO.frz o w) → Rd G a u → Rd G' a u) : ∀ {v : V} {d : D}, Rp K m G v d → Rp K m' G' v d
  | _, .non, h => by cases h; exact .non
  | _, .bl b, h => by cases h; exact .bl b
  | _, .int i, h => by cases h; exact .int i
  | _, .str x, h => by cases h; exact .str x
  | _, .tup ds, h => by
    cases h with
    | tup h1 h2 => exact .tup (h1.imp (hg _ _ fun _ _ z => by cases z) id) (RpL.monoN hm hl hg h2)
  | _, .lst ds, h => by
    cases h with
    | lst h1 h2 => exact .lst (hl _ _ h1) (RpL.monoN hm hl hg h2)
  | _, .frz ds, h => by
    cases h with
    | frz h1 h2 => exact .frz (h1.imp (hg _ _ fun _ _ z => by cases z) id) (RpL.monoN hm hl hg h2)
  | _, .dct kvs, h => by
    cases h with
    | dct h1 h2 => exact .dct (hg _ _ (fun _ _ z => by cases z) h1) (RpK.monoN hm hl hg h2)
  | _, .loc n, h => by
    cases h with
    | loc h1 => exact .loc (hm _ _ h1)
  | _, .xc a C, h => by cases h; exact .xc _ _
theorem RpL.monoN (hm : ∀ (n : Nat) (a : Addr), m[n]? = some a → m'[n]? = some a) (hl : ∀ a xs, G a = some (.lst xs) → G' a = some (.lst xs)) (hg : ∀ a u, (∀ o w, u ≠ HO.frz o w) → Rd G a u → Rd G' a u) : ∀ {vs : List V} {ds : List D}, RpL K m G vs ds → RpL K m' G' vs ds
  | _, [], h => by cases h; exact .nil
  | _, d :: ds, h => by
    cases h with
    | cons h1 h2 => exact .cons (Rp.monoN hm hl hg h1) (RpL.monoN hm hl hg h2)
theorem RpK.monoN (hm : ∀ (n : Nat) (a : Addr), m[n]? = some a → m'[n]? = some a) (hl : ∀ a xs, G a = some (.lst xs) → G' a = some (.lst xs)) (hg : ∀ a u, (∀ o w, u ≠ HO.frz o w) → Rd G a u → Rd G' a u) : ∀ {vs : List (Key × V)} {ds : List (Key × D)}, RpK K m G vs ds → RpK K m' G' vs ds
  | _, [], h => by cases h; exact .nil
  | _, (k, d) :: ds, h => by
    cases h with
    | cons h1 h2 => exact .cons (Rp.monoN hm hl hg h1) (RpK.monoN hm hl hg h2)
end
theorem Rp.mono' (hm : ∀ (n : Nat) (a : Addr), m[n]? = some a → m'[n]? = some a) (hl : ∀ a xs, G a = some (.lst xs) → G' a = some (.lst xs)) (hg : ∀ a u, Rd G a u → Rd G' a u) {v : V} {d : D} (h : Rp K m G v d) : Rp K m' G' v d := h.monoN hm hl fun a u _ => hg a u
theorem RpL.mono' (hm : ∀ (n : Nat) (a : Addr), m[n]? = some a → m'[n]? = some a) (hl : ∀ a xs, G a = some (.lst xs) → G' a = some (.lst xs)) (hg : ∀ a u, Rd G a u → Rd G' a u) {v : List V} {d : List D} (h : RpL K m G v d) : RpL K m' G' v d := h.monoN hm hl fun a u _ => hg a u
theorem RpK.mono' (hm : ∀ (n : Nat) (a : Addr), m[n]? = some a → m'[n]? = some a) (hl : ∀ a xs, G a = some (.lst xs) → G' a = some (.lst xs)) (hg : ∀ a u, Rd G a u → Rd G' a u) {v : List (Key × V)} {d : List (Key × D)} (h : RpK K m G v d) : RpK K m' G' v d := h.monoN hm hl fun a u _ => hg a u
theorem RpF.monoN (hm : ∀ (n : Nat) (a : Addr), m[n]? = some a → m'[n]? = some a) (hl : ∀ a xs, G a = some (.lst xs) → G' a = some (.lst xs)) (hg : ∀ a u, (∀ o w, u ≠ HO.frz o w) → Rd G a u → Rd G' a u) {vs : List (Str × V)} {ds : List (Str × D)} (h : RpF K m G vs ds) : RpF K m' G' vs ds := by
  induction h with
  | nil => exact .nil
  | cons h1 _ ih => exact .cons (h1.monoN hm hl hg) ih
theorem RpF.mono' (hm : ∀ (n : Nat) (a : Addr), m[n]? = some a → m'[n]? = some a) (hl : ∀ a xs, G a = some (.lst xs) → G' a = some (.lst xs)) (hg : ∀ a u, Rd G a u → Rd G' a u) {vs : List (Str × V)} {ds : List (Str × D)} (h : RpF K m G vs ds) : RpF K m' G' vs ds := by
  induction h with
  | nil => exact .nil
  | cons h1 _ ih => exact .cons (h1.mono' hm hl hg) ih
theorem RpL.length : ∀ {vs : List V} {ds : List D}, RpL K m G vs ds → vs.length = ds.length
  | _, [], h => by cases h; rfl
  | _, d :: ds, h => by
    cases h with
    | cons h1 h2 => simp [RpL.length h2]
theorem RpL.get : ∀ {vs : List V} {ds : List D} {i : Nat} {d : D}, RpL K m G vs ds → ds[i]? = some d → ∃ v, vs[i]? = some v ∧ Rp K m G v d
  | _, [], _, _, h, e => by simp at e
  | _, d :: ds, 0, x, h, e => by
    cases h with
    | cons h1 h2 => simp at e; subst e; exact ⟨_, rfl, h1⟩
  | _, d :: ds, i + 1, x, h, e => by
    cases h with
    | cons h1 h2 =>
      obtain ⟨v, e1, r⟩ := RpL.get (i := i) h2 (by simpa using e)
      exact ⟨v, by simpa using e1, r⟩
theorem RpL.getV : ∀ {vs : List V} {ds : List D} {i : Nat} {v : V}, RpL K m G vs ds → vs[i]? = some v → ∃ d, ds[i]? = some d ∧ Rp K m G v d
  | _, [], _, _, h, e => by cases h; simp at e
  | _, d :: ds, 0, x, h, e => by
    cases h with
    | cons h1 h2 => simp at e; subst e; exact ⟨_, rfl, h1⟩
  | _, d :: ds, i + 1, x, h, e => by
    cases h with
    | cons h1 h2 =>
      obtain ⟨v, e1, r⟩ := RpL.getV (i := i) h2 (by simpa using e)
      exact ⟨v, by simpa using e1, r⟩
theorem RpL.append : ∀ {vs ws : List V} {ds es : List D}, RpL K m G vs ds → RpL K m G ws es → RpL K m G (vs ++ ws) (ds ++ es)
  | _, _, [], _, h, h' => by cases h; exact h'
  | _, _, d :: ds, _, h, h' => by
    cases h with
    | cons h1 h2 => exact .cons h1 (RpL.append h2 h')
theorem RpL.take : ∀ {vs : List V} {ds : List D} (n : Nat), RpL K m G vs ds → RpL K m G (vs.take n) (ds.take n)
  | _, [], n, h => by cases h; simp; exact .nil
  | _, d :: ds, 0, h => by simp; exact .nil
  | _, d :: ds, n + 1, h => by
    cases h with
    | cons h1 h2 => simp only [List.take_succ_cons]; exact .cons h1 (RpL.take n h2)
theorem RpL.drop : ∀ {vs : List V} {ds : List D} (n : Nat), RpL K m G vs ds → RpL K m G (vs.drop n) (ds.drop n)
  | _, [], n, h => by cases h; simp; exact .nil
  | _, d :: ds, 0, h => by simpa using h
  | _, d :: ds, n + 1, h => by
    cases h with
    | cons h1 h2 => simp only [List.drop_succ_cons]; exact RpL.drop n h2
theorem RpL.set : ∀ {vs : List V} {ds : List D} (n : Nat) {v : V} {d : D}, RpL K m G vs ds → Rp K m G v d → RpL K m G (vs.set n v) (ds.set n d)
  | _, [], n, _, _, h, _ => by cases h; simp; exact .nil
  | _, d :: ds, 0, _, _, h, r => by
    cases h with
    | cons h1 h2 => exact .cons r h2
  | _, d :: ds, n + 1, _, _, h, r => by
    cases h with
    | cons h1 h2 => exact .cons h1 (RpL.set n h2 r)
theorem RpL.reverse : ∀ {vs : List V} {ds : List D}, RpL K m G vs ds → RpL K m G vs.reverse ds.reverse
  | _, [], h => by cases h; exact .nil
  | _, d :: ds, h => by
    cases h with
    | cons h1 h2 =>
      simp only [List.reverse_cons]
      exact (RpL.reverse h2).append (.cons h1 .nil)
theorem RpL.replicate (n : Nat) {v : V} {d : D} (r : Rp K m G v d) : RpL K m G (List.replicate n v) (List.replicate n d) := by
  induction n with
  | zero => exact .nil
  | succ n ih => exact .cons r ih
theorem RpL.mem {vs : List V} {ds : List D} (h : RpL K m G vs ds) {v : V} (hv : v ∈ vs) : ∃ d, d ∈ ds ∧ Rp K m G v d := by
  obtain ⟨i, hi, e⟩ := List.mem_iff_getElem.mp hv
  obtain ⟨d, e1, r⟩ := h.getV (i := i) (by rw [List.getElem?_eq_getElem hi, e])
  exact ⟨d, List.mem_of_getElem? e1, r⟩
theorem RpK.length : ∀ {vs : List (Key × V)} {ds : List (Key × D)}, RpK K m G vs ds → vs.length = ds.length
  | _, [], h => by cases h; rfl
  | _, d :: ds, h => by
    cases h with
    | cons h1 h2 => simp [RpK.length h2]
end

/-! ### results -/
inductive Res (α : Type) where
  | ok (a : α) | exc (c : Addr) (S : Store) | stuck
  deriving Inhabited
def Res.bind {α β : Type} (r : Res α) (f : α → Res β) : Res β := match r with
  | .ok a => f a | .exc c S => .exc c S | .stuck => .stuck
@[simp] theorem Res.bind_ok {α β : Type} {a : α} {f : α → Res β} : Res.bind (.ok a) f = f a := nr rfl
@[simp] theorem Res.bind_exc {α β : Type} {c : Addr} {S : Store} {f : α → Res β} : Res.bind (.exc c S) f = .exc c S := nr rfl
@[simp] theorem Res.bind_stuck {α β : Type} {f : α → Res β} : Res.bind (.stuck) f = .stuck := nr rfl
def Wants {α : Type} (r : Res α) (A : α → Prop) (B : Addr → Store → Prop) : Prop := match r with
  | .ok a => A a | .exc c S => B c S | .stuck => False
theorem Wants.bind {α β : Type} {r : Res α} {f : α → Res β} {A : β → Prop} {B : Addr → Store → Prop} (h : Wants (r.bind f) A B) : Wants r (fun a => Wants (f a) A B) B := by
  cases r <;> exact h
theorem Wants.imp {α : Type} {r : Res α} {A A' : α → Prop} {B B' : Addr → Store → Prop} (h : Wants r A B) (ha : ∀ a, A a → A' a) (hb : ∀ c S, B c S → B' c S) : Wants r A' B' := by
  cases r with
  | ok a => exact ha _ h
  | exc c S => exact hb _ _ h
  | stuck => exact h

/-! ### the state -/
/-- all of H that is neither a table nor at m stays; what is new is new -/
structure Stp (m : List Addr) (G H : Hp) (m' : List Addr) (G' H' : Hp) : Prop where
  pre : ∀ (n : Nat) (a : Addr), m[n]? = some a → m'[n]? = some a
  ge : ∀ a o, G a = some o → G' a = some o
  fresh : ∀ a, G a = none → G' a = none ∨ H a = none
  keep : ∀ a o, H a = some o → (∀ ps, o ≠ .tbl ps) → a ∉ m → H' a = some o
  live : ∀ a, H' a = none → H a = none
  mnew : ∀ a, a ∈ m' → a ∈ m ∨ H a = none
def CellOk (K : PySem.W.Frag) (m : List Addr) (G H : Hp) (a : Addr) : Cell → Prop
  | .lst ds => ∃ xs, H a = some (.lst xs) ∧ RpL K m G xs ds
  | .dct kvs => ∃ ks, H a = some (.dK ks) ∧ RpK K m G ks kvs
  | .ins C fs => ∃ dx fs', H a = some (.ins C dx fs') ∧ RpF K m G fs' fs
  | .dead => ∃ o, H a = some o ∧ ∀ ps, o ≠ .tbl ps
structure Sr (K : PySem.W.Frag) (T : List (Addr × Str)) (m : List Addr) (G : Hp) (S : Store) (H : Hp) : Prop where
  fits : ∀ a o, G a = some o → H a = some o
  ntbl : ∀ a ps, G a ≠ some (.tbl ps)
  len : m.length = S.length
  nd : m.Nodup
  cell : ∀ (n : Nat) (c : Cell) (a : Addr), S[n]? = some c → m[n]? = some a → CellOk K m G H a c
  nG : ∀ a, a ∈ m → G a = none
  tabs : LamX.Tabs T H
/-- the slots hold the data -/
def Er (K : PySem.W.Frag) (m : List Addr) (G : Hp) (σ : St) (ρ : DEnv) : Prop := σ.length = ρ.length ∧ ∀ (i : Nat) (d : D), ρ[i]? = some (some d) → ∃ v, σ[i]? = some (some v) ∧ Rp K m G v d

section
variable {K : PySem.W.Frag} {T : List (Addr × Str)} {m m1 m2 : List Addr} {G G1 G2 H H1 H2 : Hp} {S S1 : Store} {σ : St} {ρ : DEnv}
theorem Stp.refl : Stp m G H m G H := ⟨fun _ _ h => h, fun _ _ h => h, fun _ h => .inl h, fun _ _ h _ _ => h, fun _ h => h, fun _ h => .inl h⟩
theorem Sr.there (sr : Sr K T m G S H) {a : Addr} (h : a ∈ m) : ∃ o, H a = some o ∧ ∀ ps, o ≠ .tbl ps := by
  obtain ⟨i, hi, e⟩ := List.mem_iff_getElem.mp h
  have hS : i < S.length := by rw [← sr.len]; exact hi
  have q := sr.cell i S[i] a (List.getElem?_eq_getElem hS) (by rw [List.getElem?_eq_getElem hi, e])
  revert q
  cases S[i] with
  | lst ds => rintro ⟨xs, q, _⟩; exact ⟨_, q, fun ps z => by cases z⟩
  | dct ds => rintro ⟨xs, q, _⟩; exact ⟨_, q, fun ps z => by cases z⟩
  | ins C fs => rintro ⟨dx, fs', q, _⟩; exact ⟨_, q, fun ps z => by cases z⟩
  | dead => exact fun q => q
theorem Stp.trans (a : Stp m G H m1 G1 H1) (b : Stp m1 G1 H1 m2 G2 H2) (hfit : ∀ x o, G x = some o → H x = some o) : Stp m G H m2 G2 H2 where
  pre := fun n x h => b.pre n x (a.pre n x h)
  ge := fun x o h => b.ge x o (a.ge x o h)
  fresh := fun x h => by
    rcases a.fresh x h with q | q
    · rcases b.fresh x q with r | r
      · exact .inl r
      · exact .inr (a.live x r)
    · exact .inr q
  keep := fun x o h n hm => by
    have h1 := a.keep x o h n hm
    refine b.keep x o h1 n fun hx => ?_
    rcases a.mnew x hx with z | z
    · exact hm z
    · rw [h] at z; cases z
  live := fun x h => a.live x (b.live x h)
  mnew := fun x h => by
    rcases b.mnew x h with z | z
    · exact a.mnew x z
    · exact .inr (a.live x z)
theorem Stp.rd (a : Stp m G H m1 G1 H1) : ∀ x u, Rd G x u → Rd G1 x u := fun x u h => by
  rcases h with h | ⟨o, h⟩
  · exact .inl (a.ge _ _ h)
  · exact .inr ⟨o, a.ge _ _ h⟩
theorem Rp.mono (h : Stp m G H m1 G1 H1) {v : V} {d : D} (r : Rp K m G v d) : Rp K m1 G1 v d := r.mono' h.pre (fun a xs q => h.ge a _ q) h.rd
theorem RpL.mono (h : Stp m G H m1 G1 H1) {v : List V} {d : List D} (r : RpL K m G v d) : RpL K m1 G1 v d := r.mono' h.pre (fun a xs q => h.ge a _ q) h.rd
theorem RpK.mono (h : Stp m G H m1 G1 H1) {v : List (Key × V)} {d : List (Key × D)} (r : RpK K m G v d) : RpK K m1 G1 v d := r.mono' h.pre (fun a xs q => h.ge a _ q) h.rd
theorem Er.mono (h : Stp m G H m1 G1 H1) (e : Er K m G σ ρ) : Er K m1 G1 σ ρ := ⟨e.1, fun i d q => let ⟨v, q1, q2⟩ := e.2 i d q; ⟨v, q1, q2.mono h⟩⟩
theorem CellOk.monoN (hm : ∀ (n : Nat) (a : Addr), m[n]? = some a → m1[n]? = some a) (hl : ∀ a xs, G a = some (.lst xs) → G1 a = some (.lst xs)) (hg : ∀ a u, (∀ o w, u ≠ HO.frz o w) → Rd G a u → Rd G1 a u) {a : Addr} {c : Cell} (he : H1 a = H a) (h : CellOk K m G H a c) : CellOk K m1 G1 H1 a c := by
  cases c with
  | lst ds => obtain ⟨xs, q, r⟩ := h; exact ⟨xs, he.trans q, r.monoN hm hl hg⟩
  | dct ds => obtain ⟨xs, q, r⟩ := h; exact ⟨xs, he.trans q, r.monoN hm hl hg⟩
  | ins C fs => obtain ⟨dx, fs', q, r⟩ := h; exact ⟨dx, fs', he.trans q, r.monoN hm hl hg⟩
  | dead => obtain ⟨o, q, r⟩ := h; exact ⟨o, he.trans q, r⟩
theorem CellOk.mono' (hm : ∀ (n : Nat) (a : Addr), m[n]? = some a → m1[n]? = some a) (hl : ∀ a xs, G a = some (.lst xs) → G1 a = some (.lst xs)) (hg : ∀ a u, Rd G a u → Rd G1 a u) {a : Addr} {c : Cell} (he : H1 a = H a) (h : CellOk K m G H a c) : CellOk K m1 G1 H1 a c := by
  cases c with
  | lst ds => obtain ⟨xs, q, r⟩ := h; exact ⟨xs, he.trans q, r.mono' hm hl hg⟩
  | dct ds => obtain ⟨xs, q, r⟩ := h; exact ⟨xs, he.trans q, r.mono' hm hl hg⟩
  | ins C fs => obtain ⟨dx, fs', q, r⟩ := h; exact ⟨dx, fs', he.trans q, r.mono' hm hl hg⟩
  | dead => obtain ⟨o, q, r⟩ := h; exact ⟨o, he.trans q, r⟩

/-- a new object that never changes -/
theorem Stp.alloc {p : Addr} {o : HO} (sr : Sr K T m G S H) (np : H p = none) : Stp m G H m (upd G p o) (upd H p o) where
  pre := fun _ _ h => h
  ge := fun a u h => by rw [upd_ne (ne_of_none (sr.fits a u h) np)]; exact h
  fresh := fun a h => by
    by_cases e : a = p
    · rw [e]; exact .inr np
    · exact .inl (by rw [upd_ne e]; exact h)
  keep := fun a u h _ _ => by rw [upd_ne (ne_of_none h np)]; exact h
  live := fun a h => by
    by_cases e : a = p
    · rw [e]; exact np
    · rwa [upd_ne e] at h
  mnew := fun _ h => .inl h
theorem tabs_ext {T : List (Addr × Str)} (h : LamX.Tabs T H) (e : ∀ b o, H b = some o → H1 b = some o) : LamX.Tabs T H1 := h.ext e
theorem Sr.alloc {p : Addr} {o : HO} (sr : Sr K T m G S H) (np : H p = none) (nt : ∀ ps, o ≠ .tbl ps) : Sr K T m (upd G p o) S (upd H p o) where
  fits := fun a u h => by
    by_cases e : a = p
    · subst e; rw [upd_same] at h ⊢; exact h
    · rw [upd_ne e] at h ⊢; exact sr.fits a u h
  ntbl := fun a ps h => by
    by_cases e : a = p
    · subst e; rw [upd_same] at h; exact nt ps (Option.some.inj h)
    · rw [upd_ne e] at h; exact sr.ntbl a ps h
  len := sr.len
  nd := sr.nd
  cell := fun n c a h1 h2 => by
    have ht := sr.there (List.mem_of_getElem? h2)
    obtain ⟨u, hu, _⟩ := ht
    have ne : a ≠ p := ne_of_none hu np
    exact (sr.cell n c a h1 h2).mono' (fun _ _ h => h) (fun a xs q => (Stp.alloc (o := o) sr np).ge a _ q) (Stp.alloc (o := o) sr np).rd (upd_ne ne)
  nG := fun a h => by
    obtain ⟨u, hu, _⟩ := sr.there h
    rw [upd_ne (ne_of_none hu np)]
    exact sr.nG a h
  tabs := tabs_ext sr.tabs fun b u h => by rw [upd_ne (ne_of_none h np)]; exact h
end

/-! ### readings by total functions -/
abbrev Ex := DEnv → Store → Res (D × Store)
abbrev Tx := DEnv → Store → Res (Bool × Store)
abbrev Ax := DEnv → Store → Res (List D × Store)
inductive Fl where
  | nx | bk | ct | rt (d : D)
abbrev Sx := DEnv → Store → Res (Fl × DEnv × Store)

def Here (K : PySem.W.Frag) (T : List (Addr × Str)) (σ : St) (ρ : DEnv) (m : List Addr) (G : Hp) (S : Store) (H : Hp) : Prop := Er K m G σ ρ ∧ Sr K T m G S H
def PostE (K : PySem.W.Frag) (T : List (Addr × Str)) (m : List Addr) (G H : Hp) (Q : VK) : D × Store → Prop := fun r => ∀ v m' G' H', Stp m G H m' G' H' → Sr K T m' G' r.2 H' → Rp K m' G' v r.1 → Q v H'
def PostT (K : PySem.W.Frag) (T : List (Addr × Str)) (m : List Addr) (G H : Hp) (Q : Bool → Hp → Prop) : Bool × Store → Prop := fun r => ∀ m' G' H', Stp m G H m' G' H' → Sr K T m' G' r.2 H' → Q r.1 H'
def PostA (K : PySem.W.Frag) (T : List (Addr × Str)) (m : List Addr) (G H : Hp) (Q : List V → Hp → Prop) : List D × Store → Prop := fun r => ∀ vs m' G' H', Stp m G H m' G' H' → Sr K T m' G' r.2 H' → RpL K m' G' vs r.1 → Q vs H'
def PostX (K : PySem.W.Frag) (T : List (Addr × Str)) (W : WX) (σ : St) (m : List Addr) (G H : Hp) : Addr → Store → Prop := fun c S' => ∀ m' G' H', Stp m G H m' G' H' → Sr K T m' G' S' H' → W (.ref c) none σ H'
def PostS (K : PySem.W.Frag) (T : List (Addr × Str)) (m : List Addr) (G H : Hp) (D : Ends) : Fl × DEnv × Store → Prop := fun r => match r.1 with
  | .nx => ∀ σ' m' G' H', Stp m G H m' G' H' → Here K T σ' r.2.1 m' G' r.2.2 H' → D.nx σ' H'
  | .bk => ∀ σ' m' G' H', Stp m G H m' G' H' → Here K T σ' r.2.1 m' G' r.2.2 H' → D.bk σ' H'
  | .ct => ∀ σ' m' G' H', Stp m G H m' G' H' → Here K T σ' r.2.1 m' G' r.2.2 H' → D.ct σ' H'
  | .rt d => ∀ v m' G' H', Stp m G H m' G' H' → Sr K T m' G' r.2.2 H' → Rp K m' G' v d → D.rt v H'
def PostXS (K : PySem.W.Frag) (T : List (Addr × Str)) (W : WX) (m : List Addr) (G H : Hp) : Addr → Store → Prop := fun c S' => ∀ σ' m' G' H', Stp m G H m' G' H' → Sr K T m' G' S' H' → W (.ref c) none σ' H'
def tE (K : PySem.W.Frag) (T : List (Addr × Str)) (W : WX) (f : Ex) : TE := fun σ H Q => ∃ ρ m G S, Here K T σ ρ m G S H ∧ Wants (f ρ S) (PostE K T m G H Q) (PostX K T W σ m G H)
def tT (K : PySem.W.Frag) (T : List (Addr × Str)) (W : WX) (f : Tx) : TT := fun σ H Q => ∃ ρ m G S, Here K T σ ρ m G S H ∧ Wants (f ρ S) (PostT K T m G H Q) (PostX K T W σ m G H)
def tA (K : PySem.W.Frag) (T : List (Addr × Str)) (W : WX) (f : Ax) : TA := fun σ H Q => ∃ ρ m G S, Here K T σ ρ m G S H ∧ Wants (f ρ S) (PostA K T m G H Q) (PostX K T W σ m G H)
def tSt (K : PySem.W.Frag) (T : List (Addr × Str)) (W : WX) (f : Sx) : TS := fun D σ H => ∃ ρ m G S, Here K T σ ρ m G S H ∧ Wants (f ρ S) (PostS K T m G H D) (PostXS K T W m G H)

structure DE (X : Cx) (T : List (Addr × Str)) (W : WX) (e : Expr) (f : Ex) : Prop where
  pe : PE X e (tE X.K T W f)
structure DT (X : Cx) (T : List (Addr × Str)) (W : WX) (e : Expr) (f : Tx) : Prop where
  pt : PT X e (tT X.K T W f)
structure DW (X : Cx) (T : List (Addr × Str)) (W : WX) (e : Expr) (f : Tx) : Prop where
  pw : PW X e (tT X.K T W f)
structure DA (X : Cx) (T : List (Addr × Str)) (W : WX) (es : List Expr) (f : Ax) : Prop where
  pa : PA X es (tA X.K T W f)
structure DS (X : Cx) (T : List (Addr × Str)) (W : WX) (st : Stmt) (f : Sx) : Prop where
  ps : PS X st (tSt X.K T W f)
structure DSs (X : Cx) (T : List (Addr × Str)) (W : WX) (st : List Stmt) (f : Sx) : Prop where
  ps : PSs X st (tSt X.K T W f)

theorem PE.imp {X : Cx} {e : Expr} {t t' : TE} (h : PE X e t) (i : ∀ σ H Q, t' σ H Q → t σ H Q) : PE X e t' := ⟨fun pins s σ H Q I q => h.run pins s σ H Q I (i σ H Q q)⟩
theorem PT.imp {X : Cx} {e : Expr} {t t' : TT} (h : PT X e t) (i : ∀ σ H Q, t' σ H Q → t σ H Q) : PT X e t' := ⟨fun pins s σ H Q I q => h.run pins s σ H Q I (i σ H Q q)⟩
theorem PW.imp {X : Cx} {e : Expr} {t t' : TT} (h : PW X e t) (i : ∀ σ H Q, t' σ H Q → t σ H Q) : PW X e t' := ⟨fun wh pins s σ H Q I q => h.run wh pins s σ H Q I (i σ H Q q)⟩
theorem PA.imp {X : Cx} {e : List Expr} {t t' : TA} (h : PA X e t) (i : ∀ σ H Q, t' σ H Q → t σ H Q) : PA X e t' := ⟨fun p pins s σ H Q I q => h.run p pins s σ H Q I (i σ H Q q)⟩
theorem PS.imp {X : Cx} {e : Stmt} {t t' : TS} (h : PS X e t) (i : ∀ D σ H, t' D σ H → t D σ H) : PS X e t' := ⟨fun pins s σ H D I q => h.run pins s σ H D I (i D σ H q)⟩
theorem PSs.imp {X : Cx} {e : List Stmt} {t t' : TS} (h : PSs X e t) (i : ∀ D σ H, t' D σ H → t D σ H) : PSs X e t' := ⟨fun pins s σ H D I q => h.run pins s σ H D I (i D σ H q)⟩
theorem PE.or {X : Cx} {e : Expr} {t t' : TE} (h : PE X e t) (h' : PE X e t') : PE X e (fun σ H Q => t σ H Q ∨ t' σ H Q) := ⟨fun pins s σ H Q I q => q.elim (h.run pins s σ H Q I) (h'.run pins s σ H Q I)⟩
theorem PT.or {X : Cx} {e : Expr} {t t' : TT} (h : PT X e t) (h' : PT X e t') : PT X e (fun σ H Q => t σ H Q ∨ t' σ H Q) := ⟨fun pins s σ H Q I q => q.elim (h.run pins s σ H Q I) (h'.run pins s σ H Q I)⟩
theorem PS.or {X : Cx} {e : Stmt} {t t' : TS} (h : PS X e t) (h' : PS X e t') : PS X e (fun D σ H => t D σ H ∨ t' D σ H) := ⟨fun pins s σ H D I q => q.elim (h.run pins s σ H D I) (h'.run pins s σ H D I)⟩

section
variable {K : PySem.W.Frag} {T : List (Addr × Str)} {W : WX} {m m1 m2 : List Addr} {G G1 G2 H H1 H2 : Hp} {S S1 : Store} {σ : St} {ρ : DEnv}
theorem PostE.next (sr : Sr K T m G S H) (st : Stp m G H m1 G1 H1) {Q : VK} {r : D × Store} (h : PostE K T m G H Q r) : PostE K T m1 G1 H1 Q r := fun v m' G' H' a => h v m' G' H' (st.trans a sr.fits)
theorem PostT.next (sr : Sr K T m G S H) (st : Stp m G H m1 G1 H1) {Q : Bool → Hp → Prop} {r : Bool × Store} (h : PostT K T m G H Q r) : PostT K T m1 G1 H1 Q r := fun m' G' H' a => h m' G' H' (st.trans a sr.fits)
theorem PostA.next (sr : Sr K T m G S H) (st : Stp m G H m1 G1 H1) {Q : List V → Hp → Prop} {r : List D × Store} (h : PostA K T m G H Q r) : PostA K T m1 G1 H1 Q r := fun v m' G' H' a => h v m' G' H' (st.trans a sr.fits)
theorem PostX.next (sr : Sr K T m G S H) (st : Stp m G H m1 G1 H1) {c : Addr} {S' : Store} (h : PostX K T W σ m G H c S') : PostX K T W σ m1 G1 H1 c S' := fun m' G' H' a => h m' G' H' (st.trans a sr.fits)
theorem PostS.next (sr : Sr K T m G S H) (st : Stp m G H m1 G1 H1) {D : Ends} {r : Fl × DEnv × Store} (h : PostS K T m G H D r) : PostS K T m1 G1 H1 D r := by
  obtain ⟨fl, ρ', S'⟩ := r
  cases fl with
  | nx => exact fun v m' G' H' a => h v m' G' H' (st.trans a sr.fits)
  | bk => exact fun v m' G' H' a => h v m' G' H' (st.trans a sr.fits)
  | ct => exact fun v m' G' H' a => h v m' G' H' (st.trans a sr.fits)
  | rt d => exact fun v m' G' H' a => h v m' G' H' (st.trans a sr.fits)
theorem PostXS.next (sr : Sr K T m G S H) (st : Stp m G H m1 G1 H1) {c : Addr} {S' : Store} (h : PostXS K T W m G H c S') : PostXS K T W m1 G1 H1 c S' := fun σ' m' G' H' a => h σ' m' G' H' (st.trans a sr.fits)

/-- go on behind an expression -/
theorem tE.bind {α : Type} {f : Ex} {k : D × Store → Res α} {A : α → Prop} {B : Addr → Store → Prop} {Q1 : VK} (hh : Here K T σ ρ m G S H) (h : Wants ((f ρ S).bind k) A B)
    (hB : ∀ c S', B c S' → PostX K T W σ m G H c S')
    (next : ∀ x S1 v m1 G1 H1, Stp m G H m1 G1 H1 → Here K T σ ρ m1 G1 S1 H1 → Rp K m1 G1 v x → Wants (k (x, S1)) A B → Q1 v H1) : tE K T W f σ H Q1 := by
  refine ⟨ρ, m, G, S, hh, h.bind.imp (fun r hr v m' G' H' st sr rp => ?_) hB⟩
  exact next r.1 r.2 v m' G' H' st ⟨hh.1.mono st, sr⟩ rp hr
theorem tT.bind {α : Type} {f : Tx} {k : Bool × Store → Res α} {A : α → Prop} {B : Addr → Store → Prop} {Q1 : Bool → Hp → Prop} (hh : Here K T σ ρ m G S H) (h : Wants ((f ρ S).bind k) A B)
    (hB : ∀ c S', B c S' → PostX K T W σ m G H c S')
    (next : ∀ b S1 m1 G1 H1, Stp m G H m1 G1 H1 → Here K T σ ρ m1 G1 S1 H1 → Wants (k (b, S1)) A B → Q1 b H1) : tT K T W f σ H Q1 := by
  refine ⟨ρ, m, G, S, hh, h.bind.imp (fun r hr m' G' H' st sr => ?_) hB⟩
  exact next r.1 r.2 m' G' H' st ⟨hh.1.mono st, sr⟩ hr
theorem tA.bind {α : Type} {f : Ax} {k : List D × Store → Res α} {A : α → Prop} {B : Addr → Store → Prop} {Q1 : List V → Hp → Prop} (hh : Here K T σ ρ m G S H) (h : Wants ((f ρ S).bind k) A B)
    (hB : ∀ c S', B c S' → PostX K T W σ m G H c S')
    (next : ∀ xs S1 vs m1 G1 H1, Stp m G H m1 G1 H1 → Here K T σ ρ m1 G1 S1 H1 → RpL K m1 G1 vs xs → Wants (k (xs, S1)) A B → Q1 vs H1) : tA K T W f σ H Q1 := by
  refine ⟨ρ, m, G, S, hh, h.bind.imp (fun r hr v m' G' H' st sr rp => ?_) hB⟩
  exact next r.1 r.2 v m' G' H' st ⟨hh.1.mono st, sr⟩ rp hr
/-- the wants at a later state -/
theorem Wants.nextE {Q : VK} {r : Res (D × Store)} (sr : Sr K T m G S H) (st : Stp m G H m1 G1 H1) (h : Wants r (PostE K T m G H Q) (PostX K T W σ m G H)) : Wants r (PostE K T m1 G1 H1 Q) (PostX K T W σ m1 G1 H1) :=
  h.imp (fun _ q => q.next sr st) fun _ _ q => q.next sr st
theorem Wants.nextT {Q : Bool → Hp → Prop} {r : Res (Bool × Store)} (sr : Sr K T m G S H) (st : Stp m G H m1 G1 H1) (h : Wants r (PostT K T m G H Q) (PostX K T W σ m G H)) : Wants r (PostT K T m1 G1 H1 Q) (PostX K T W σ m1 G1 H1) :=
  h.imp (fun _ q => q.next sr st) fun _ _ q => q.next sr st
theorem Wants.nextA {Q : List V → Hp → Prop} {r : Res (List D × Store)} (sr : Sr K T m G S H) (st : Stp m G H m1 G1 H1) (h : Wants r (PostA K T m G H Q) (PostX K T W σ m G H)) : Wants r (PostA K T m1 G1 H1 Q) (PostX K T W σ m1 G1 H1) :=
  h.imp (fun _ q => q.next sr st) fun _ _ q => q.next sr st
theorem Wants.nextS {D : Ends} {r : Res (Fl × DEnv × Store)} (sr : Sr K T m G S H) (st : Stp m G H m1 G1 H1) (h : Wants r (PostS K T m G H D) (PostXS K T W m G H)) : Wants r (PostS K T m1 G1 H1 D) (PostXS K T W m1 G1 H1) :=
  h.imp (fun _ q => q.next sr st) fun _ _ q => q.next sr st
theorem PostE.same {Q : VK} {d : D} {v : V} (h : PostE K T m G H Q (d, S)) (sr : Sr K T m G S H) (r : Rp K m G v d) : Q v H := h v m G H .refl sr r
theorem PostE.alloc {Q : VK} {d : D} {p : Addr} {o : HO} (h : PostE K T m G H Q (d, S)) (sr : Sr K T m G S H) (np : H p = none) (nt : ∀ ps, o ≠ .tbl ps) (r : Rp K m (upd G p o) (.ref p) d) : Q (.ref p) (upd H p o) :=
  h _ m _ _ (Stp.alloc sr np) (sr.alloc np nt) r
theorem rpL_alloc {p : Addr} {o : HO} (sr : Sr K T m G S H) (np : H p = none) {xs : List V} {ds : List D} (r : RpL K m G xs ds) : RpL K m (upd G p o) xs ds := r.mono (Stp.alloc (o := o) sr np)
end
/-- an option as a result -/
def lft (S : Store) : Option D → Res (D × Store)
  | some d => .ok (d, S) | none => .stuck
@[simp] theorem lft_some {S : Store} {d : D} : lft S (some d) = .ok (d, S) := nr rfl
@[simp] theorem lft_none {S : Store} : lft S none = .stuck := nr rfl
end DL

/-! DL2: expressions by their data: names, constants, operators, comparisons, and, or, not, displays, subscripts. -/
namespace DL
open PySem PySem.Spec L2

section
variable {X : Cx} {T : List (Addr × Str)} {W : WX} {a b c e : Expr} {f f1 f2 f3 : Ex} {pos : Pos}

/-! ### names and constants -/
def exV (i : Nat) : Ex := fun ρ S => match ρ[i]? with
  | some (some d) => .ok (d, S)
  | _ => .stuck
theorem de_var (i : Nat) {x : Str} (hN : X.N[i]? = some x := by rfl) (hv : Vis X.env.scope x := by first | exact Or.inl rfl | exact Or.inr (Or.inl rfl) | exact Or.inr (Or.inr rfl))
    (hd : (x == ("__debug__" : Str)) = false := by decide) (hcd : (x == ("__classdict__" : Str)) = false := by decide) : DE X T W (.Name x pos) (exV i) := by
  refine ⟨PE.imp (pe_var hN hv hd hcd) fun σ H Q ⟨ρ, m, G, S, hh, h⟩ => ?_⟩
  unfold exV at h
  cases e : ρ[i]? with
  | none => rw [e] at h; exact h.elim
  | some o =>
    cases o with
    | none => rw [e] at h; exact h.elim
    | some d =>
      rw [e] at h
      obtain ⟨v, e1, r⟩ := hh.1.2 i d e
      exact ⟨v, e1, PostE.same h hh.2 r⟩
def exC (d : D) : Ex := fun _ S => .ok (d, S)
theorem de_const {v : V} {d : D} (h : PE X e (tC v)) (r : ∀ m G, Rp X.K m G v d) : DE X T W e (exC d) :=
  ⟨PE.imp h fun σ H Q ⟨ρ, m, G, S, hh, h⟩ => PostE.same h hh.2 (r m G)⟩
theorem de_int {i : Int} {j : Nat} : DE X T W (.Constant (.int i) j pos) (exC (.int i)) := de_const pe_int fun _ _ => .int i
theorem de_bl {k : Bool} {j : Nat} : DE X T W (.Constant (.bool k) j pos) (exC (.bl k)) := de_const pe_bl fun _ _ => .bl k
theorem de_non {j : Nat} : DE X T W (.Constant .none j pos) (exC .non) := de_const pe_non fun _ _ => .non
theorem de_str {x : Str} {j : Nat} : DE X T W (.Constant (.str x) j pos) (exC (.str x)) := de_const pe_str fun _ _ => .str x
/-- a module's constant -/
theorem de_glob {x : Str} {v : V} {u : Value} {d : D} (hg : Gl X x) (hm : X.mg x = some u) (r : RelV v u) (rp : ∀ m G, Rp X.K m G v d) (hd : (x == ("__debug__" : Str)) = false := by decide) : DE X T W (.Name x pos) (exC d) :=
  de_const (pe_glob hg hm r hd) rp

/-! ### operators by values -/
/-- what an operator's rule asks is shown by data -/
def OpD (K : PySem.W.Frag) (T : List (Addr × Str)) (r : R2) (g : Store → D → D → Option D) : Prop :=
  ∀ (m : List Addr) (G : Hp) (S : Store) (H : Hp) (x y : D) (v u : V) (d : D) (Q : VK), Sr K T m G S H → Rp K m G v x → Rp K m G u y → g S x y = some d → PostE K T m G H Q (d, S) → r v u H Q
def ex2 (g : Store → D → D → Option D) (f1 f2 : Ex) : Ex := fun ρ S => (f1 ρ S).bind fun r1 => (f2 ρ r1.2).bind fun r2 => lft r2.2 (g r2.2 r1.1 r2.1)
theorem lft_want {K : PySem.W.Frag} {T : List (Addr × Str)} {m : List Addr} {G H : Hp} {S : Store} {o : Option D} {Q : VK} {B : Addr → Store → Prop} (h : Wants (lft S o) (PostE K T m G H Q) B) : ∃ d, o = some d ∧ PostE K T m G H Q (d, S) := by
  cases o with
  | none => exact h.elim
  | some d => exact ⟨d, rfl, h⟩
theorem op2_imp {K : PySem.W.Frag} {r : R2} {g : Store → D → D → Option D} (hg : OpD K T r g) {σ : St} {H : Hp} {Q : VK} (h : tE K T W (ex2 g f1 f2) σ H Q) : tOp r (tE K T W f1) (tE K T W f2) σ H Q := by
  obtain ⟨ρ, m, G, S, hh, h⟩ := h
  refine tE.bind hh h (fun _ _ q => q) fun x S1 v m1 G1 H1 st1 hh1 rx h1 => ?_
  refine tE.bind hh1 (h1.nextE hh.2 st1) (fun _ _ q => q) fun y S2 u m2 G2 H2 st2 hh2 ry h2 => ?_
  obtain ⟨d, e, p⟩ := lft_want (h2.nextE hh1.2 st2)
  exact hg m2 G2 S2 H2 x y v u d Q hh2.2 (rx.mono st2) ry e p
theorem de_bin {op : Operator} {r : R2} {g : Store → D → D → Option D} (ho : OpR X (binaryOp op) r) (hg : OpD X.K T r g) (ha : DE X T W a f1) (hb : DE X T W b f2) : DE X T W (.BinOp a op b pos) (ex2 g f1 f2) :=
  ⟨PE.imp (pe_op ho ha.pe hb.pe) fun _ _ _ h => op2_imp hg h⟩
theorem de_cmp {op : CmpOp} {r : R2} {g : Store → D → D → Option D} (ho : OpR X (compareOp op) r) (hg : OpD X.K T r g) (ha : DE X T W a f1) (hb : DE X T W b f2) (hm : behindInMarks op b = false) : DE X T W (.Compare a [op] [b] pos) (ex2 g f1 f2) :=
  ⟨PE.imp (pe_cmpR ho ha.pe hb.pe hm) fun _ _ _ h => op2_imp hg h⟩
/-- a value that is a truth, as a test -/
def tx (f : Ex) : Tx := fun ρ S => (f ρ S).bind fun r => match r.1 with
  | .bl k => .ok (k, r.2)
  | _ => .stuck
theorem dt_cmp {op : CmpOp} {r : R2} {g : Store → D → D → Option D} (ho : OpR X (compareOp op) r) (hg : OpD X.K T r g) (ha : DE X T W a f1) (hb : DE X T W b f2) (hm : behindInMarks op b = false) : DT X T W (.Compare a [op] [b] pos) (tx (ex2 g f1 f2)) := by
  refine ⟨PT.imp (pt_cmpR ho ha.pe hb.pe hm) fun σ H Q ⟨ρ, m, G, S, hh, h⟩ => ?_⟩
  refine op2_imp hg ⟨ρ, m, G, S, hh, (Wants.bind h).imp (fun r hr v m' G' H' st sr rp => ?_) fun _ _ q => q⟩
  obtain ⟨d, S'⟩ := r
  cases d with
  | bl k =>
    cases rp
    exact ⟨k, rfl, hr m' G' H' st sr⟩
  | _ => exact (show False from hr).elim
theorem tx_imp {K : PySem.W.Frag} {σ : St} {H : Hp} {Q : Bool → Hp → Prop} (h : tT K T W (tx f) σ H Q) : tE K T W f σ H (fun x H1 => ∃ k, x = V.bl k ∧ Q k H1) := by
  obtain ⟨ρ, m, G, S, hh, h⟩ := h
  refine ⟨ρ, m, G, S, hh, (Wants.bind h).imp (fun r hr v m' G' H' st sr rp => ?_) fun _ _ q => q⟩
  obtain ⟨d, S'⟩ := r
  cases d with
  | bl k =>
    cases rp
    exact ⟨k, rfl, hr m' G' H' st sr⟩
  | _ => exact (show False from hr).elim

/-! ### what is looked at -/
def cellL : Option Cell → Option (List D)
  | some (.lst ds) => some ds
  | _ => none
def cellK : Option Cell → Option (List (Key × D))
  | some (.dct ds) => some ds
  | _ => none
theorem cellL_some {o : Option Cell} {ds : List D} (h : cellL o = some ds) : o = some (.lst ds) := by
  unfold cellL at h
  split at h
  · cases h; rfl
  · cases h
theorem cellK_some {o : Option Cell} {ds : List (Key × D)} (h : cellK o = some ds) : o = some (.dct ds) := by
  unfold cellK at h
  split at h
  · cases h; rfl
  · cases h
def lstOf (S : Store) : D → Option (List D)
  | .lst ds => some ds
  | .frz ds => some ds
  | .loc n => cellL S[n]?
  | _ => none
/-- a list that stands as it is -/
def lstX (S : Store) : D → Option (List D)
  | .lst ds => some ds
  | .loc n => cellL S[n]?
  | _ => none
def dctOf (S : Store) : D → Option (List (Key × D))
  | .dct ds => some ds
  | .loc n => cellK S[n]?
  | _ => none
@[simp] theorem lstOf_lst {S : Store} {ds : List D} : lstOf S (.lst ds) = some ds := nr rfl
@[simp] theorem lstX_lst {S : Store} {ds : List D} : lstX S (.lst ds) = some ds := nr rfl
@[simp] theorem dctOf_dct {S : Store} {ds : List (Key × D)} : dctOf S (.dct ds) = some ds := nr rfl
section
variable {K : PySem.W.Frag} {m : List Addr} {G H : Hp} {S : Store} {v : V} {x : D} {ds : List D}
theorem lstX_at (sr : Sr K T m G S H) (r : Rp K m G v x) (h : lstX S x = some ds) : ∃ a xs, v = .ref a ∧ H a = some (.lst xs) ∧ RpL K m G xs ds := by
  cases r with
  | lst h1 h2 => cases h; exact ⟨_, _, rfl, sr.fits _ _ h1, h2⟩
  | @loc a n h1 =>
    have e := cellL_some (show cellL S[n]? = some ds from h)
    obtain ⟨xs, q1, q2⟩ := sr.cell n _ a e h1
    exact ⟨a, xs, rfl, q1, q2⟩
  | _ => cases h
theorem lstOf_at (sr : Sr K T m G S H) (r : Rp K m G v x) (h : lstOf S x = some ds) : ∃ a xs, v = .ref a ∧ SqL K H a xs ∧ RpL K m G xs ds := by
  cases r with
  | lst h1 h2 => cases h; exact ⟨_, _, rfl, .of (sr.fits _ _ h1), h2⟩
  | frz h1 h2 =>
    cases h
    refine ⟨_, _, rfl, h1.imp (fun q => ?_) id, h2⟩
    rcases q with q | ⟨o, q⟩
    · exact .inl (sr.fits _ _ q)
    · exact .inr ⟨o, sr.fits _ _ q⟩
  | @loc a n h1 =>
    obtain ⟨a, xs, e, q1, q2⟩ := lstX_at (ds := ds) sr (.loc h1 : Rp K m G (.ref a) (.loc n)) h
    exact ⟨a, xs, e, .of q1, q2⟩
  | _ => cases h
theorem tup_at (sr : Sr K T m G S H) (r : Rp K m G v (.tup ds)) : ∃ a xs, v = .ref a ∧ SqT K H a xs ∧ RpL K m G xs ds := by
  cases r with
  | tup h1 h2 =>
    refine ⟨_, _, rfl, h1.imp (fun q => ?_) id, h2⟩
    rcases q with q | ⟨o, q⟩
    · exact .inl (sr.fits _ _ q)
    · exact .inr ⟨o, sr.fits _ _ q⟩
theorem dct_at (sr : Sr K T m G S H) (r : Rp K m G v x) {kvs : List (Key × D)} (h : dctOf S x = some kvs) : ∃ a ks, v = .ref a ∧ Rd H a (.dK ks) ∧ RpK K m G ks kvs := by
  cases r with
  | @dct a ks _ h1 h2 =>
    cases h
    refine ⟨a, ks, rfl, ?_, h2⟩
    rcases h1 with q | ⟨o, q⟩
    · exact .inl (sr.fits _ _ q)
    · exact .inr ⟨o, sr.fits _ _ q⟩
  | @loc a n h1 =>
    have e := cellK_some (show cellK S[n]? = some kvs from h)
    obtain ⟨xs, q1, q2⟩ := sr.cell n _ a e h1
    exact ⟨a, xs, rfl, .inl q1, q2⟩
  | _ => cases h
end

/-! ### arithmetic -/
def gAdd (S : Store) : D → D → Option D
  | .int i, .int j => some (.int (i + j))
  | .str x, .str y => if x.length + y.length ≤ sizeLine then some (.str (x ++ y)) else none
  | .tup xs, .tup ys => if xs.length + ys.length ≤ sizeLine then some (.tup (xs ++ ys)) else none
  | x, y => match lstX S x, lstX S y with
    | some xs, some ys => if xs.length + ys.length ≤ sizeLine then some (.lst (xs ++ ys)) else none
    | _, _ => none
def rAddD (K : PySem.W.Frag) : R2 := fun x y H Q => (∃ i j, x = .int i ∧ y = .int j ∧ Q (.int (i + j)) H) ∨ ((∃ i j, x = .str i ∧ y = .str j ∧ i.length + j.length ≤ sizeLine ∧ Q (.str (i ++ j)) H) ∨ (rCatA K x y H Q ∨ rCat x y H Q))
theorem op_addD : OpR X (binaryOp .Add) (rAddD X.K) := OpR.or op_add (OpR.or op_add_str (OpR.or op_catA op_cat))
theorem add_lists {K : PySem.W.Frag} {m : List Addr} {G : Hp} {S : Store} {H : Hp} {x y : D} {v u : V} {d : D} {Q : VK} (sr : Sr K T m G S H) (rx : Rp K m G v x) (ry : Rp K m G u y)
    (h : (match lstX S x, lstX S y with | some xs, some ys => if xs.length + ys.length ≤ sizeLine then some (D.lst (xs ++ ys)) else none | _, _ => none) = some d) (p : PostE K T m G H Q (d, S)) : rCat v u H Q := by
  cases e1 : lstX S x with
  | none => rw [e1] at h; cases h
  | some xs =>
    cases e2 : lstX S y with
    | none => rw [e1, e2] at h; cases h
    | some ys =>
      rw [e1, e2] at h
      dsimp only at h
      split at h
      case isFalse => cases h
      case isTrue hl =>
        cases h
        obtain ⟨a, us, rfl, h1, r1⟩ := lstX_at sr rx e1
        obtain ⟨b, ws, rfl, h2, r2⟩ := lstX_at sr ry e2
        refine ⟨a, b, us, ws, rfl, rfl, h1, h2, by rw [r1.length, r2.length]; exact hl, fun p0 np => ?_⟩
        exact p.alloc sr np (fun _ z => by cases z) (.lst upd_same (rpL_alloc sr np (r1.append r2)))
theorem opd_add {K : PySem.W.Frag} : OpD K T (rAddD K) gAdd := by
  intro m G S H x y v u d Q sr rx ry h p
  unfold gAdd at h
  split at h
  · cases h
    cases rx; cases ry
    exact .inl ⟨_, _, rfl, rfl, p.same sr (.int _)⟩
  · split at h
    case isFalse => cases h
    case isTrue hl =>
      cases h
      cases rx; cases ry
      exact .inr (.inl ⟨_, _, rfl, rfl, hl, p.same sr (.str _)⟩)
  · split at h
    case isFalse => cases h
    case isTrue hl =>
      cases h
      obtain ⟨a, us, rfl, h1, r1⟩ := tup_at sr rx
      obtain ⟨b, ws, rfl, h2, r2⟩ := tup_at sr ry
      refine .inr (.inr (.inl ⟨a, b, us, ws, rfl, rfl, h1, h2, by rw [r1.length, r2.length]; exact hl, fun e0 => ?_, fun e0 e1 => ?_, fun e0 e1 p0 np => ?_⟩))
      · subst e0
        cases r1
        exact p.same sr (by simpa using ry)
      · subst e1
        cases r2
        exact p.same sr (by simpa using rx)
      · exact p.alloc sr np (fun _ z => by cases z) (.tup (.of upd_same) (rpL_alloc sr np (r1.append r2)))
  · exact .inr (.inr (.inr (add_lists sr rx ry h p)))
theorem de_add (ha : DE X T W a f1) (hb : DE X T W b f2) : DE X T W (.BinOp a .Add b pos) (ex2 gAdd f1 f2) := de_bin op_addD opd_add ha hb
def gSub (S : Store) : D → D → Option D
  | .int i, .int j => some (.int (i - j))
  | _, _ => none
theorem opd_sub {K : PySem.W.Frag} : OpD K T (rI0 fun i j => .int (i - j)) gSub := by
  intro m G S H x y v u d Q sr rx ry h p
  unfold gSub at h
  split at h
  · cases h
    cases rx; cases ry
    exact ⟨_, _, rfl, rfl, p.same sr (.int _)⟩
  · cases h
theorem de_sub (ha : DE X T W a f1) (hb : DE X T W b f2) : DE X T W (.BinOp a .Sub b pos) (ex2 gSub f1 f2) := de_bin op_sub opd_sub ha hb
/-- a text k times: by its list -/
def strRep (x : Str) (k : Nat) : Str := ⟨(List.replicate k x.cps.toList).flatten.toArray⟩
def gMul (S : Store) : D → D → Option D
  | .int i, .int j => if (Builtin.Int.intBits i : Int) + (Builtin.Int.intBits j : Int) ≤ 134217728 then some (.int (i * j)) else none
  | .str z, .int k => if k < 2 ^ 62 ∧ -(2 ^ 62) ≤ k ∧ z.length * k.toNat ≤ sizeLine then some (.str (strRep z k.toNat)) else none
  | x, .int k => match lstX S x with
    | some xs => if k < 2 ^ 63 ∧ -(2 ^ 63) ≤ k ∧ xs.length * k.toNat ≤ sizeLine then some (.lst (List.replicate k.toNat xs).flatten) else none
    | none => none
  | _, _ => none
theorem foldl_arr {α : Type} (x : Array α) : ∀ (n : Nat) (a : Array α), (List.replicate n x).foldl (· ++ ·) a = a ++ (List.replicate n x.toList).flatten.toArray
  | 0, a => by simp
  | n + 1, a => by
    rw [List.replicate_succ, List.foldl_cons, foldl_arr x n, List.replicate_succ, List.flatten_cons]
    apply Array.ext'
    simp
theorem len_strRep (z : Str) (n : Nat) : (strRep z n).length = n * z.length := by
  show (List.replicate n z.cps.toList).flatten.toArray.size = _
  rw [List.size_toArray, PyProof.Rows.lm_len_rep_flat]
  rfl
/-- a text k times -/
def rRepS : R2 := fun x y H Q => ∃ z k, x = .str z ∧ y = .int k ∧ k < 2 ^ 62 ∧ -(2 ^ 62) ≤ k ∧ z.length * k.toNat ≤ sizeLine ∧ Q (.str (strRep z k.toNat)) H
theorem op_repS {X : Cx} : OpR X (binaryOp .Mult) rRepS := by
  intro pins s σ H x y v u Q I rx ry h
  obtain ⟨z, k, rfl, rfl, h1, h2, hz, q⟩ := h
  obtain ⟨t, rfl⟩ := rx
  obtain ⟨t2, rfl⟩ := ry
  have hsl : (sizeLine : Nat) ≤ 2 ^ 62 := by decide
  refine P.mul_str ?_ (fun h3 h4 => ?_) (fun h3 h4 => ?_) ?_
  · rw [decide_eq_false (by omega), decide_eq_false (by omega)]; rfl
  · have hk : (0 : Int) < k := by omega
    have h5 : ((z.length : Nat) : Int) * k ≤ 2 ^ 62 := by
      have : ((z.length * k.toNat : Nat) : Int) = (z.length : Int) * k := by rw [Int.natCast_mul, Int.toNat_of_nonneg (by omega)]
      rw [← this]
      omega
    have h6 : ((z.length : Nat) : Int) ≤ (2 ^ 63 - 1) / k := (Int.le_ediv_iff_mul_le hk).mpr (by omega)
    omega
  · show decide (z.length * k.toNat > sizeLine) = false
    rw [decide_eq_false (by omega)]
  · by_cases h3 : k < 1
    · rw [if_pos h3]
      have e : k.toNat = 0 := by omega
      rw [e] at q
      exact ⟨by decide, .str (strRep z 0), H, I.tok _, ⟨_, rfl⟩, q⟩
    · rw [if_neg h3]
      by_cases h4 : (k == 1 || z.length == 0) = true
      · rw [if_pos h4]
        have e : strRep z k.toNat = z := by
          rcases Bool.or_eq_true_iff.mp h4 with h5 | h5
          · have : k = 1 := by simpa using h5
            subst this
            show (⟨_⟩ : Str) = _
            simp
          · have h6 : z.cps.toList = [] := List.eq_nil_of_length_eq_zero (by simpa [Str.length] using h5)
            have h7 : z = ⟨z.cps.toList.toArray⟩ := rfl
            rw [h7, h6]
            unfold strRep
            congr 1
            have e0 : ∀ n : Nat, (List.replicate n ([] : List Nat)).flatten = [] := fun n => by
              induction n with
              | zero => rfl
              | succ n ih => rw [List.replicate_succ, List.flatten_cons, ih]; rfl
            show (List.replicate k.toNat ([] : List Nat)).flatten.toArray = _
            rw [e0]
        rw [e] at q
        exact ⟨.str z, _, I, ⟨_, rfl⟩, q⟩
      · rw [if_neg h4]
        have e : (List.replicate k.toNat z.cps).foldl (· ++ ·) #[] = (List.replicate k.toNat z.cps.toList).flatten.toArray := by rw [foldl_arr]; simp
        rw [e]
        exact ⟨by rw [show (⟨(List.replicate k.toNat z.cps.toList).flatten.toArray⟩ : Str) = strRep z k.toNat from rfl, len_strRep, Nat.mul_comm]; exact hz, .str (strRep z k.toNat), H, I.tok _, ⟨_, rfl⟩, q⟩
theorem RpL.flat {K : PySem.W.Frag} {m : List Addr} {G : Hp} {xs : List V} {ds : List D} (r : RpL K m G xs ds) (k : Nat) : RpL K m G (List.replicate k xs).flatten (List.replicate k ds).flatten := by
  induction k with
  | zero => exact .nil
  | succ k ih => simp only [List.replicate_succ, List.flatten_cons]; exact r.append ih
theorem opd_mul {K : PySem.W.Frag} : OpD K T (fun x y H Q => rI CMulX (fun i j => .int (i * j)) x y H Q ∨ (rRepS x y H Q ∨ rRep x y H Q)) gMul := by
  intro m G S H x y v u d Q sr rx ry h p
  unfold gMul at h
  split at h
  · split at h
    case isFalse => cases h
    case isTrue hl =>
      cases h
      cases rx; cases ry
      exact .inl ⟨_, _, rfl, rfl, hl, p.same sr (.int _)⟩
  · split at h
    case isFalse => cases h
    case isTrue hl =>
      cases h
      cases rx; cases ry
      exact .inr (.inl ⟨_, _, rfl, rfl, hl.1, hl.2.1, hl.2.2, p.same sr (.str _)⟩)
  · rename_i k _ _
    split at h
    · rename_i xs e1
      split at h
      case isFalse => cases h
      case isTrue hl =>
        cases h
        cases ry
        obtain ⟨a, us, rfl, h1, r1⟩ := lstX_at sr rx e1
        refine .inr (.inr ⟨a, k, us, rfl, rfl, h1, hl.2.1, hl.1, by rw [r1.length]; exact hl.2.2, fun p0 np => ?_⟩)
        exact p.alloc sr np (fun _ z => by cases z) (.lst upd_same (rpL_alloc sr np (r1.flat _)))
    · cases h
  · cases h
theorem de_mul (ha : DE X T W a f1) (hb : DE X T W b f2) : DE X T W (.BinOp a .Mult b pos) (ex2 gMul f1 f2) := de_bin (OpR.or op_mulX (OpR.or op_repS op_rep)) opd_mul ha hb
def gFdiv (S : Store) : D → D → Option D
  | .int i, .int j => if 0 < j ∧ j.natAbs.log2 < 9000 then some (.int (i / j)) else none
  | _, _ => none
theorem opd_fdiv {K : PySem.W.Frag} : OpD K T (rI CDivW fun i j => .int (i / j)) gFdiv := by
  intro m G S H x y v u d Q sr rx ry h p
  unfold gFdiv at h
  split at h
  · split at h
    case isFalse => cases h
    case isTrue hl =>
      cases h
      cases rx; cases ry
      exact ⟨_, _, rfl, rfl, hl, p.same sr (.int _)⟩
  · cases h
theorem de_fdiv (ha : DE X T W a f1) (hb : DE X T W b f2) : DE X T W (.BinOp a .FloorDiv b pos) (ex2 gFdiv f1 f2) := de_bin op_fdivW opd_fdiv ha hb
def gMod (S : Store) : D → D → Option D
  | .int i, .int j => if 0 < j then some (.int (i % j)) else none
  | _, _ => none
theorem opd_mod {K : PySem.W.Frag} : OpD K T (rI (fun _ j => 0 < j) fun i j => .int (i % j)) gMod := by
  intro m G S H x y v u d Q sr rx ry h p
  unfold gMod at h
  split at h
  · split at h
    case isFalse => cases h
    case isTrue hl =>
      cases h
      cases rx; cases ry
      exact ⟨_, _, rfl, rfl, hl, p.same sr (.int _)⟩
  · cases h
theorem de_mod (ha : DE X T W a f1) (hb : DE X T W b f2) : DE X T W (.BinOp a .Mod b pos) (ex2 gMod f1 f2) := de_bin op_mod opd_mod ha hb
def gPow (S : Store) : D → D → Option D
  | .int i, .int j => if 0 ≤ j ∧ j ≤ 1000000 ∧ i.natAbs < 2 ^ 64 then some (.int (i ^ j.toNat)) else none
  | _, _ => none
theorem opd_pow {K : PySem.W.Frag} : OpD K T (rI CPow fun i j => .int (i ^ j.toNat)) gPow := by
  intro m G S H x y v u d Q sr rx ry h p
  unfold gPow at h
  split at h
  · split at h
    case isFalse => cases h
    case isTrue hl =>
      cases h
      cases rx; cases ry
      exact ⟨_, _, rfl, rfl, hl, p.same sr (.int _)⟩
  · cases h
theorem de_pow (ha : DE X T W a f1) (hb : DE X T W b f2) : DE X T W (.BinOp a .Pow b pos) (ex2 gPow f1 f2) := de_bin op_pow opd_pow ha hb
def ex1 (g : D → Option D) (f : Ex) : Ex := fun ρ S => (f ρ S).bind fun r => lft r.2 (g r.1)
def gNeg : D → Option D
  | .int i => some (.int (-i))
  | _ => none
theorem de_neg (ha : DE X T W a f) : DE X T W (.UnaryOp .USub a pos) (ex1 gNeg f) := by
  refine ⟨PE.imp (pe_un un_neg ha.pe) fun σ H Q ⟨ρ, m, G, S, hh, h⟩ => ?_⟩
  refine tE.bind hh h (fun _ _ q => q) fun x S1 v m1 G1 H1 st1 hh1 rx h1 => ?_
  obtain ⟨d, e, p⟩ := lft_want (h1.nextE hh.2 st1)
  cases x with
  | int i =>
    cases e
    cases rx
    exact ⟨i, rfl, p.same hh1.2 (.int _)⟩
  | _ => cases e

/-! ### comparisons -/
mutual
def toP : D → Option PyData
  | .non => some .none
  | .bl b => some (.bool b)
  | .int i => some (.int i)
  | .str x => some (.str x)
  | .tup ds => (toPs ds).map .tuple
  | .lst ds => (toPs ds).map .list
  | .frz ds => (toPs ds).map .list
  | .dct _ => none
  | .loc _ => none
  | .xc _ _ => none
def toPs : List D → Option (List PyData)
  | [] => some []
  | d :: ds => match toP d, toPs ds with
    | some p, some ps => some (p :: ps)
    | _, _ => none
end
/-- the top looked through -/
def derefC (n : Nat) : Option Cell → D
  | some (.lst ds) => .lst ds
  | some (.dct kvs) => .dct kvs
  | _ => .loc n
def deref (S : Store) : D → D
  | .loc n => derefC n S[n]?
  | d => d
section
variable {K : PySem.W.Frag} {m : List Addr} {G H : Hp}
theorem sqL_up (hf : ∀ a o, G a = some o → H a = some o) {a : Addr} {xs : List V} (h : SqL K G a xs) : SqL K H a xs := h.imp (fun q => by
  rcases q with q | ⟨o, q⟩
  · exact .inl (hf _ _ q)
  · exact .inr ⟨o, hf _ _ q⟩) id
theorem sqT_up (hf : ∀ a o, G a = some o → H a = some o) {a : Addr} {xs : List V} (h : SqT K G a xs) : SqT K H a xs := h.imp (fun q => by
  rcases q with q | ⟨o, q⟩
  · exact .inl (hf _ _ q)
  · exact .inr ⟨o, hf _ _ q⟩) id
mutual
theorem dp_of (hf : ∀ a o, G a = some o → H a = some o) : ∀ {d : D} {v : V} {p : PyData}, Rp K m G v d → toP d = some p → Dp K H v p
  | .non, _, _, r, e => by cases r; cases e; exact .non
  | .bl _, _, _, r, e => by cases r; cases e; exact .bl _
  | .int _, _, _, r, e => by cases r; cases e; exact .int _
  | .str _, _, _, r, e => by cases r; cases e; exact .str _
  | .tup ds, _, _, r, e => by
    unfold toP at e
    cases q : toPs ds with
    | none => rw [q] at e; cases e
    | some ps =>
      rw [q] at e; cases e
      cases r with
      | tup h1 h2 => exact .tup (sqT_up hf h1) (dps_of hf h2 q)
  | .lst ds, _, _, r, e => by
    unfold toP at e
    cases q : toPs ds with
    | none => rw [q] at e; cases e
    | some ps =>
      rw [q] at e; cases e
      cases r with
      | lst h1 h2 => exact .lst (.of (hf _ _ h1)) (dps_of hf h2 q)
  | .frz ds, _, _, r, e => by
    unfold toP at e
    cases q : toPs ds with
    | none => rw [q] at e; cases e
    | some ps =>
      rw [q] at e; cases e
      cases r with
      | frz h1 h2 => exact .lst (sqL_up hf h1) (dps_of hf h2 q)
  | .dct _, _, _, _, e => by cases e
  | .loc _, _, _, _, e => by cases e
  | .xc _ _, _, _, _, e => by cases e
theorem dps_of (hf : ∀ a o, G a = some o → H a = some o) : ∀ {ds : List D} {vs : List V} {ps : List PyData}, RpL K m G vs ds → toPs ds = some ps → DpAll K H vs ps
  | [], _, _, r, e => by cases r; cases e; exact .nil
  | d :: ds, _, _, r, e => by
    unfold toPs at e
    cases q1 : toP d with
    | none => rw [q1] at e; cases e
    | some p =>
      cases q2 : toPs ds with
      | none => rw [q1, q2] at e; cases e
      | some ps =>
        rw [q1, q2] at e; cases e
        cases r with
        | cons h1 h2 => exact .cons (dp_of hf h1 q1) (dps_of hf h2 q2)
end
theorem dp_at {S : Store} (sr : Sr K T m G S H) {d : D} {v : V} {p : PyData} (r : Rp K m G v d) (h : toP (deref S d) = some p) : Dp K H v p := by
  cases d with
  | loc n =>
    have h : toP (derefC n S[n]?) = some p := h
    cases e : S[n]? with
    | none => rw [e] at h; cases h
    | some c =>
      rw [e] at h
      cases c with
      | lst ds =>
        obtain ⟨a, xs, rfl, h1, h2⟩ := lstX_at (ds := ds) sr r (show cellL S[n]? = some ds by rw [e]; rfl)
        have h : (toPs ds).map PyData.list = some p := h
        cases q2 : toPs ds with
        | none => rw [q2] at h; cases h
        | some ps =>
          rw [q2] at h; cases h
          exact .lst (.of h1) (dps_of sr.fits h2 q2)
      | dct kvs => cases h
      | ins C fs => cases h
      | dead => cases h
  | _ => exact dp_of sr.fits r h
end
/-- two plain values -/
def eqF : D → D → Option Bool
  | .non, .non => some true
  | .bl a, .bl b => some (a == b)
  | .int a, .int b => some (a == b)
  | .str a, .str b => some (a == b)
  | .non, .bl _ => some false
  | .non, .int _ => some false
  | .non, .str _ => some false
  | .str _, .non => some false
  | .int _, .non => some false
  | .bl _, .non => some false
  | _, _ => none
def flatD : D → Bool
  | .non => true
  | .bl _ => true
  | .int _ => true
  | .str _ => true
  | _ => false
def eqD : D → D → Bool
  | .non, .non => true
  | .bl a, .bl b => a == b
  | .bl a, .int b => (if a then 1 else 0) == b
  | .int a, .bl b => a == (if b then 1 else 0)
  | .int a, .int b => a == b
  | .str a, .str b => a == b
  | _, _ => false
/-- two dicts of plain values -/
def eqKs (ks ls : List (Key × D)) : Bool := ks.all fun p => match valV' ls p.1 with
  | some u => eqD p.2 u
  | none => false
where valV' (kvs : List (Key × D)) (k : Key) : Option D := (kvs.find? fun kv => decide (kv.1 = k)).map (·.2)
abbrev valD : List (Key × D) → Key → Option D := eqKs.valV'
def eqKD (ks ls : List (Key × D)) : Option Bool := if ks.all (fun p => flatD p.2) && ls.all (fun p => flatD p.2) then some (ks.length == ls.length && eqKs ks ls) else none
def eqG (S : Store) (x y : D) : Option Bool := match eqF x y with
  | some b => some b
  | none => match dctOf S x, dctOf S y with
    | some ks, some ls => eqKD ks ls
    | _, _ => match toP (deref S x), toP (deref S y) with
      | some p, some q => if SeqAt.shaped p && SeqAt.shaped q then some (PyData.eqv p q) else none
      | _, _ => none
def gEq (S : Store) (x y : D) : Option D := (eqG S x y).map .bl
def gNe (S : Store) (x y : D) : Option D := (eqG S x y).map fun b => .bl (!b)

section
variable {K : PySem.W.Frag} {m : List Addr} {G H : Hp} {S : Store}
theorem flat_rp {v : V} {d : D} (r : Rp K m G v d) (f : flatD d = true) : flatV v = true := by
  cases r <;> first | rfl | cases f
theorem eq_rp {v u : V} {x y : D} (r : Rp K m G v x) (q : Rp K m G u y) (f : flatD x = true) (g : flatD y = true) : eqV v u = eqD x y := by
  cases r <;> cases q <;> first | rfl | cases f | cases g
theorem valV_rp {ks : List (Key × V)} {kvs : List (Key × D)} (r : RpK K m G ks kvs) (k : Key) : (valV ks k = none ∧ valD kvs k = none) ∨ ∃ v d, valV ks k = some v ∧ valD kvs k = some d ∧ Rp K m G v d ∧ (k, d) ∈ kvs := by
  induction kvs generalizing ks with
  | nil => cases r; exact .inl ⟨rfl, rfl⟩
  | cons p kvs ih =>
    obtain ⟨k', d⟩ := p
    cases r with
    | @cons _ v vs _ _ h1 h2 =>
      by_cases e : k' = k
      · subst e
        exact .inr ⟨v, d, valV_pos rfl, by show Option.map _ (List.find? _ _) = _; simp, h1, by simp⟩
      · have e1 : valV ((k', v) :: vs) k = valV vs k := valV_neg e
        have e2 : valD ((k', d) :: kvs) k = valD kvs k := by show Option.map _ (List.find? _ _) = Option.map _ (List.find? _ _); simp [e]
        rw [e1, e2]
        rcases ih h2 with q | ⟨v', d', q1, q2, q3, q4⟩
        · exact .inl q
        · exact .inr ⟨v', d', q1, q2, q3, by simp [q4]⟩
theorem RpK.flat {ks : List (Key × V)} {kvs : List (Key × D)} (r : RpK K m G ks kvs) (f : kvs.all (fun p => flatD p.2) = true) : ∀ p ∈ ks, flatV p.2 = true := by
  induction kvs generalizing ks with
  | nil => cases r; simp
  | cons q kvs ih =>
    obtain ⟨k, d⟩ := q
    cases r with
    | cons h1 h2 =>
      simp only [List.all_cons, Bool.and_eq_true] at f
      intro p hp
      rcases List.mem_cons.mp hp with rfl | hp
      · exact flat_rp h1 f.1
      · exact ih h2 f.2 p hp
/-- the hits of a dict in another, by data -/
theorem hits_of {A : Around} {s : Shared} {lb : List (Key × V)} {vb : List (Key × Value)} {ls : List (Key × D)} (rl : RpK K m G lb ls) (kb : KV lb vb) (fl : ls.all (fun p => flatD p.2) = true) :
    ∀ {la : List (Key × V)} {va : List (Key × Value)} {ks : List (Key × D)}, RpK K m G la ks → KV la va → ks.all (fun p => flatD p.2) = true → PySem.W.KeqHits A s vb va (eqKs ks ls) := by
  intro la va ks
  induction ks generalizing la va with
  | nil => intro r k _; cases r; cases k; exact .nil
  | cons p ks ih =>
    obtain ⟨k0, d⟩ := p
    intro r k f
    cases r with
    | @cons _ v vs _ _ h1 h2 =>
      cases k with
      | @cons _ q _ qs hk ht =>
        obtain ⟨hk1, hk2⟩ := hk
        obtain ⟨k1, w1⟩ := q
        have hk1 : k0 = k1 := hk1
        subst hk1
        have hk2 : RelV v w1 := hk2
        simp only [List.all_cons, Bool.and_eq_true] at f
        have rr := kb.val k0
        have e0 : eqKs ((k0, d) :: ks) ls = ((match valD ls k0 with | some u => eqD d u | none => false) && eqKs ks ls) := rfl
        rcases valV_rp rl k0 with ⟨n1, n2⟩ | ⟨v', d', n1, n2, n3, n4⟩
        · rw [n1] at rr
          rw [e0, n2]
          exact .miss rr.none_of
        · rw [n1] at rr
          obtain ⟨y, hy, ry⟩ := rr.some_of
          rw [e0, n2]
          have fd' : flatD d' = true := List.all_eq_true.mp fl _ n4
          have q := eqAt_V (A := A) (s := s) hk2 ry (flat_rp h1 f.1) (flat_rp n3 fd')
          rw [eq_rp h1 n3 f.1 fd'] at q
          exact .hit hy q (ih h2 ht f.2)
end
def rEqK (neg : Bool) : R2 := fun x y H Q => ∃ (a b : Addr) (la lb : List (Key × V)) (r : Bool), x = .ref a ∧ y = .ref b ∧ Rd H a (.dK la) ∧ Rd H b (.dK lb) ∧
  (∀ (A : Around) (s : Shared) (va vb : List (Key × Value)), KV la va → KV lb vb → PySem.W.KeqHits A s vb va r) ∧ Q (.bl (if neg then !(la.length == lb.length && r) else (la.length == lb.length && r))) H
theorem op_eqK (hu : X.A.units < cLine) : OpR X (compareOp .Eq) (rEqK false) := by
  intro pins s σ H x y v u Q I rx ry h
  obtain ⟨a, b, la, lb, r, rfl, rfl, ea, eb, hit, q⟩ := h
  obtain rfl : v = Value.ref a := rx
  obtain rfl : u = Value.ref b := ry
  obtain ⟨_, ya, va, ra, da⟩ := dk_rd I.hok ea
  obtain ⟨_, yb, vb, rb, db⟩ := dk_rd I.hok eb
  refine PySem.W.keq_eq (knd := mixKind X.prog X.w) (r := r) ya yb da db hu (fun _ => hit _ _ _ _ ra rb) (fin_bl I q ?_)
  simp [ra.length, rb.length]
theorem op_neK (hu : X.A.units < cLine) : OpR X (compareOp .NotEq) (rEqK true) := by
  intro pins s σ H x y v u Q I rx ry h
  obtain ⟨a, b, la, lb, r, rfl, rfl, ea, eb, hit, q⟩ := h
  obtain rfl : v = Value.ref a := rx
  obtain rfl : u = Value.ref b := ry
  obtain ⟨_, ya, va, ra, da⟩ := dk_rd I.hok ea
  obtain ⟨_, yb, vb, rb, db⟩ := dk_rd I.hok eb
  refine PySem.W.keq_ne (knd := mixKind X.prog X.w) (r := r) ya yb da db hu (fun _ => hit _ _ _ _ ra rb) (fin_bl I q ?_)
  simp [ra.length, rb.length]
theorem eqF_rp {K : PySem.W.Frag} {m : List Addr} {G : Hp} {v u : V} {x y : D} {b : Bool} (r : Rp K m G v x) (q : Rp K m G u y) (h : eqF x y = some b) : scal v u = true ∧ decide (v = u) = b := by
  cases r <;> cases q <;> first
    | (cases h; refine ⟨rfl, ?_⟩; simp [Bool.beq_eq_decide_eq])
    | cases h
def rEqAll (K : PySem.W.Frag) : R2 := fun x y H Q => rEq x y H Q ∨ (rEqK false x y H Q ∨ rEqD K x y H Q)
def rNeAll (K : PySem.W.Frag) : R2 := fun x y H Q => rNe x y H Q ∨ (rEqK true x y H Q ∨ rNeD K x y H Q)
theorem opd_eqG {K : PySem.W.Frag} {m : List Addr} {G : Hp} {S : Store} {H : Hp} {x y : D} {v u : V} {b : Bool} (sr : Sr K T m G S H) (rx : Rp K m G v x) (ry : Rp K m G u y) (h : eqG S x y = some b) :
    (scal v u = true ∧ decide (v = u) = b) ∨ ((∃ (a c : Addr) (la lb : List (Key × V)) (r : Bool), v = .ref a ∧ u = .ref c ∧ Rd H a (.dK la) ∧ Rd H c (.dK lb) ∧ (∀ (A : Around) (s : Shared) (va vb : List (Key × Value)), KV la va → KV lb vb → PySem.W.KeqHits A s vb va r) ∧ b = (la.length == lb.length && r)) ∨
      ∃ d e, Dp K H v d ∧ Dp K H u e ∧ SeqAt.shaped d = true ∧ SeqAt.shaped e = true ∧ b = PyData.eqv d e) := by
  unfold eqG at h
  cases e : eqF x y with
  | some b' =>
    rw [e] at h
    cases h
    exact .inl (eqF_rp rx ry e)
  | none =>
    rw [e] at h
    dsimp only at h
    split at h
    · rename_i ks ls e1 e2
      unfold eqKD at h
      split at h
      case isFalse => cases h
      case isTrue hf =>
        cases h
        rw [Bool.and_eq_true] at hf
        obtain ⟨a, la, rfl, h1, r1⟩ := dct_at sr rx e1
        obtain ⟨c, lb, rfl, h2, r2⟩ := dct_at sr ry e2
        refine .inr (.inl ⟨a, c, la, lb, eqKs ks ls, rfl, rfl, h1, h2, fun A s va vb k1 k2 => hits_of r2 k2 hf.2 r1 k1 hf.1, ?_⟩)
        rw [r1.length, r2.length]
    · split at h
      · rename_i p q e1 e2
        split at h
        case isFalse => cases h
        case isTrue hf =>
          cases h
          rw [Bool.and_eq_true] at hf
          exact .inr (.inr ⟨p, q, dp_at sr rx e1, dp_at sr ry e2, hf.1, hf.2, rfl⟩)
      · cases h
theorem opd_eq {K : PySem.W.Frag} : OpD K T (rEqAll K) gEq := by
  intro m G S H x y v u d Q sr rx ry h p
  unfold gEq at h
  cases e : eqG S x y with
  | none => rw [e] at h; cases h
  | some b =>
    rw [e] at h; cases h
    have q := p.same sr (Rp.bl (K := K) (m := m) (G := G) b)
    rcases opd_eqG sr rx ry e with ⟨h1, h2⟩ | ⟨a, c, la, lb, r, rfl, rfl, h1, h2, h3, rfl⟩ | ⟨d, e', h1, h2, h3, h4, rfl⟩
    · exact .inl ⟨h1, by rw [h2]; exact q⟩
    · exact .inr (.inl ⟨a, c, la, lb, r, rfl, rfl, h1, h2, h3, q⟩)
    · exact .inr (.inr ⟨d, e', h1, h2, h3, h4, q⟩)
theorem opd_ne {K : PySem.W.Frag} : OpD K T (rNeAll K) gNe := by
  intro m G S H x y v u d Q sr rx ry h p
  unfold gNe at h
  cases e : eqG S x y with
  | none => rw [e] at h; cases h
  | some b =>
    rw [e] at h; cases h
    have q := p.same sr (Rp.bl (K := K) (m := m) (G := G) (!b))
    rcases opd_eqG sr rx ry e with ⟨h1, h2⟩ | ⟨a, c, la, lb, r, rfl, rfl, h1, h2, h3, rfl⟩ | ⟨d, e', h1, h2, h3, h4, rfl⟩
    · exact .inl ⟨h1, by rw [h2]; exact q⟩
    · exact .inr (.inl ⟨a, c, la, lb, r, rfl, rfl, h1, h2, h3, q⟩)
    · exact .inr (.inr ⟨d, e', h1, h2, h3, h4, q⟩)
theorem op_eqAll (hu : X.A.units + 64 < cLine) : OpR X (compareOp .Eq) (rEqAll X.K) := OpR.or op_eq (OpR.or (op_eqK (by omega)) (op_eqD hu))
theorem op_neAll (hu : X.A.units + 64 < cLine) : OpR X (compareOp .NotEq) (rNeAll X.K) := OpR.or op_ne (OpR.or (op_neK (by omega)) (op_neD hu))
theorem de_eq (hu : X.A.units + 64 < cLine) (ha : DE X T W a f1) (hb : DE X T W b f2) : DE X T W (.Compare a [.Eq] [b] pos) (ex2 gEq f1 f2) := de_cmp (op_eqAll hu) opd_eq ha hb (nomark _)
theorem de_ne (hu : X.A.units + 64 < cLine) (ha : DE X T W a f1) (hb : DE X T W b f2) : DE X T W (.Compare a [.NotEq] [b] pos) (ex2 gNe f1 f2) := de_cmp (op_neAll hu) opd_ne ha hb (nomark _)
theorem dt_eq (hu : X.A.units + 64 < cLine) (ha : DE X T W a f1) (hb : DE X T W b f2) : DT X T W (.Compare a [.Eq] [b] pos) (tx (ex2 gEq f1 f2)) := dt_cmp (op_eqAll hu) opd_eq ha hb (nomark _)
theorem dt_ne (hu : X.A.units + 64 < cLine) (ha : DE X T W a f1) (hb : DE X T W b f2) : DT X T W (.Compare a [.NotEq] [b] pos) (tx (ex2 gNe f1 f2)) := dt_cmp (op_neAll hu) opd_ne ha hb (nomark _)
/-- the order of whole numbers -/
def gOrd (p : Int → Int → Bool) (S : Store) : D → D → Option D
  | .int i, .int j => some (.bl (p i j))
  | _, _ => none
theorem opd_ord {K : PySem.W.Frag} {p : Int → Int → Bool} : OpD K T (rI0 fun i j => .bl (p i j)) (gOrd p) := by
  intro m G S H x y v u d Q sr rx ry h p
  unfold gOrd at h
  split at h
  · cases h
    cases rx; cases ry
    exact ⟨_, _, rfl, rfl, p.same sr (.bl _)⟩
  · cases h
abbrev gLt := gOrd fun i j => decide (i < j)
abbrev gLe := gOrd fun i j => decide (i ≤ j)
abbrev gGt := gOrd fun i j => decide (j < i)
abbrev gGe := gOrd fun i j => decide (j ≤ i)
theorem de_lt (ha : DE X T W a f1) (hb : DE X T W b f2) : DE X T W (.Compare a [.Lt] [b] pos) (ex2 gLt f1 f2) := de_cmp op_lt opd_ord ha hb (nomark _)
theorem de_le (ha : DE X T W a f1) (hb : DE X T W b f2) : DE X T W (.Compare a [.LtE] [b] pos) (ex2 gLe f1 f2) := de_cmp op_le opd_ord ha hb (nomark _)
theorem de_gt (ha : DE X T W a f1) (hb : DE X T W b f2) : DE X T W (.Compare a [.Gt] [b] pos) (ex2 gGt f1 f2) := de_cmp op_gt opd_ord ha hb (nomark _)
theorem de_ge (ha : DE X T W a f1) (hb : DE X T W b f2) : DE X T W (.Compare a [.GtE] [b] pos) (ex2 gGe f1 f2) := de_cmp op_ge opd_ord ha hb (nomark _)
theorem dt_lt (ha : DE X T W a f1) (hb : DE X T W b f2) : DT X T W (.Compare a [.Lt] [b] pos) (tx (ex2 gLt f1 f2)) := dt_cmp op_lt opd_ord ha hb (nomark _)
theorem dt_le (ha : DE X T W a f1) (hb : DE X T W b f2) : DT X T W (.Compare a [.LtE] [b] pos) (tx (ex2 gLe f1 f2)) := dt_cmp op_le opd_ord ha hb (nomark _)
theorem dt_gt (ha : DE X T W a f1) (hb : DE X T W b f2) : DT X T W (.Compare a [.Gt] [b] pos) (tx (ex2 gGt f1 f2)) := dt_cmp op_gt opd_ord ha hb (nomark _)
theorem dt_ge (ha : DE X T W a f1) (hb : DE X T W b f2) : DT X T W (.Compare a [.GtE] [b] pos) (tx (ex2 gGe f1 f2)) := dt_cmp op_ge opd_ord ha hb (nomark _)
/-- is, is not: of None, of truths -/
def isNon : D → Bool
  | .non => true
  | _ => false
def gIs (S : Store) : D → D → Option D
  | .bl i, .bl j => some (.bl (i == j))
  | x, .non => some (.bl (isNon x))
  | _, _ => none
def gIsNot (S : Store) (x y : D) : Option D := match gIs S x y with
  | some (.bl b) => some (.bl (!b))
  | _ => none
theorem rp_non {K : PySem.W.Frag} {m : List Addr} {G : Hp} {v : V} {x : D} (r : Rp K m G v x) : decide (v = .non) = isNon x := by
  cases r <;> simp [isNon]
theorem gIs_rp {K : PySem.W.Frag} {m : List Addr} {G : Hp} {v u : V} {x y d : D} {S : Store} (rx : Rp K m G v x) (ry : Rp K m G u y) (h : gIs S x y = some d) :
    (∃ a b : Bool, v = .bl a ∧ u = .bl b ∧ d = .bl (decide (a = b))) ∨ (u = .non ∧ d = .bl (decide (v = .non))) := by
  unfold gIs at h
  split at h
  · cases h
    cases rx; cases ry
    exact .inl ⟨_, _, rfl, rfl, by rw [Bool.beq_eq_decide_eq]⟩
  · cases h
    cases ry
    exact .inr ⟨rfl, by rw [rp_non rx]⟩
  · cases h
theorem opd_is {K : PySem.W.Frag} : OpD K T (fun x y H Q => rIsB x y H Q ∨ (y = .non ∧ Q (.bl (decide (x = .non))) H)) gIs := by
  intro m G S H x y v u d Q sr rx ry h p
  rcases gIs_rp rx ry h with ⟨a, b, rfl, rfl, rfl⟩ | ⟨rfl, rfl⟩
  · exact .inl ⟨a, b, rfl, rfl, p.same sr (.bl _)⟩
  · exact .inr ⟨rfl, p.same sr (.bl _)⟩
theorem opd_isnot {K : PySem.W.Frag} : OpD K T (fun x y H Q => rNotB x y H Q ∨ (y = .non ∧ Q (.bl (!decide (x = .non))) H)) gIsNot := by
  intro m G S H x y v u d Q sr rx ry h p
  unfold gIsNot at h
  cases e : gIs S x y with
  | none => rw [e] at h; cases h
  | some d0 =>
    rw [e] at h
    rcases gIs_rp rx ry e with ⟨a, b, rfl, rfl, rfl⟩ | ⟨rfl, rfl⟩
    · cases h; exact .inl ⟨a, b, rfl, rfl, p.same sr (.bl _)⟩
    · cases h; exact .inr ⟨rfl, p.same sr (.bl _)⟩
theorem de_is (ha : DE X T W a f1) (hb : DE X T W b f2) : DE X T W (.Compare a [.Is] [b] pos) (ex2 gIs f1 f2) := de_cmp (OpR.or op_isBl op_isN) opd_is ha hb (nomark _)
theorem de_isnot (ha : DE X T W a f1) (hb : DE X T W b f2) : DE X T W (.Compare a [.IsNot] [b] pos) (ex2 gIsNot f1 f2) := de_cmp (OpR.or op_notBl op_notN) opd_isnot ha hb (nomark _)
theorem dt_is (ha : DE X T W a f1) (hb : DE X T W b f2) : DT X T W (.Compare a [.Is] [b] pos) (tx (ex2 gIs f1 f2)) := dt_cmp (OpR.or op_isBl op_isN) opd_is ha hb (nomark _)
theorem dt_isnot (ha : DE X T W a f1) (hb : DE X T W b f2) : DT X T W (.Compare a [.IsNot] [b] pos) (tx (ex2 gIsNot f1 f2)) := dt_cmp (OpR.or op_notBl op_notN) opd_isnot ha hb (nomark _)
end
end DL

/-! DL3: in, chains, and, or, not, tests, displays, subscripts, slices. -/
namespace DL
open PySem PySem.Spec L2

section
variable {X : Cx} {T : List (Addr × Str)} {W : WX} {a b c e : Expr} {f f1 f2 f3 : Ex} {pos : Pos}

/-! ### in -/
def kOf : D → Option Key
  | .int i => some (.inl i)
  | .str x => some (.inr x)
  | _ => none
theorem kOf_rp {K : PySem.W.Frag} {m : List Addr} {G : Hp} {v : V} {x : D} {k : Key} (r : Rp K m G v x) (h : kOf x = some k) : v = kV k := by
  cases r <;> first | (cases h; rfl) | cases h
def inD (x : D) (ds : List D) : Bool := ds.any fun y => eqD y x
theorem inD_rp {K : PySem.W.Frag} {m : List Addr} {G : Hp} {v : V} {x : D} (r : Rp K m G v x) (f : flatD x = true) : ∀ {vs : List V} {ds : List D}, RpL K m G vs ds → ds.all flatD = true → vs.all flatV = true ∧ inV v vs = inD x ds
  | _, [], h, _ => by cases h; exact ⟨rfl, rfl⟩
  | _, d :: ds, h, g => by
    cases h with
    | cons h1 h2 =>
      simp only [List.all_cons, Bool.and_eq_true] at g
      obtain ⟨q1, q2⟩ := inD_rp r f h2 g.2
      refine ⟨by simp only [List.all_cons, Bool.and_eq_true]; exact ⟨flat_rp h1 g.1, q1⟩, ?_⟩
      unfold inV inD at *
      rw [List.any_cons, List.any_cons, eq_rp h1 r g.1 f, q2]
/-- one sign in a text -/
def signIn (x z : Str) : Option Bool := match x.cps.toList with
  | [c] => some (decide (c ∈ z.cps.toList))
  | _ => none
def seqOf (S : Store) : D → Option (List D)
  | .tup ds => some ds
  | x => lstOf S x
def gIn (S : Store) (x y : D) : Option D := match x, y with
  | .str x, .str z => (signIn x z).map .bl
  | x, y => match dctOf S y with
    | some kvs => (kOf x).map fun k => .bl (valD kvs k).isSome
    | none => match seqOf S y with
      | some ds => if flatD x && ds.all flatD then some (.bl (inD x ds)) else none
      | none => none
def gNotIn (S : Store) (x y : D) : Option D := match gIn S x y with
  | some (.bl b) => some (.bl (!b))
  | _ => none
theorem seqOf_at {K : PySem.W.Frag} {m : List Addr} {G H : Hp} {S : Store} {v : V} {x : D} {ds : List D} (sr : Sr K T m G S H) (r : Rp K m G v x) (h : seqOf S x = some ds) : ∃ a xs, v = .ref a ∧ (SqL K H a xs ∨ SqT K H a xs) ∧ RpL K m G xs ds := by
  cases x with
  | tup es =>
    cases h
    obtain ⟨a, xs, e, h1, h2⟩ := tup_at sr r
    exact ⟨a, xs, e, .inr h1, h2⟩
  | lst es => obtain ⟨a, xs, e, h1, h2⟩ := lstOf_at sr r h; exact ⟨a, xs, e, .inl h1, h2⟩
  | frz es => obtain ⟨a, xs, e, h1, h2⟩ := lstOf_at sr r h; exact ⟨a, xs, e, .inl h1, h2⟩
  | loc es => obtain ⟨a, xs, e, h1, h2⟩ := lstOf_at sr r h; exact ⟨a, xs, e, .inl h1, h2⟩
  | _ => cases h
def rInK (neg : Bool) : R2 := fun x y H Q => ∃ a o, y = .ref a ∧ DGet H a x o ∧ Q (.bl (if neg then !o.isSome else o.isSome)) H
theorem op_inK (hu : X.A.units + 1 < cLine) : OpR X (compareOp .In) (rInK false) := by
  intro pins s σ H x y v u Q I rx ry h
  obtain ⟨a, o, rfl, g, q⟩ := h
  obtain rfl : u = Value.ref a := ry
  exact d_in hu I g rx fun s' I' => ⟨.bl _, H, I', rfl, q⟩
theorem op_notInK (hu : X.A.units + 1 < cLine) : OpR X (compareOp .NotIn) (rInK true) := by
  intro pins s σ H x y v u Q I rx ry h
  obtain ⟨a, o, rfl, g, q⟩ := h
  obtain rfl : u = Value.ref a := ry
  exact d_notIn hu I g rx fun s' I' => ⟨.bl _, H, I', rfl, q⟩
def rInS1 (neg : Bool) : R2 := fun x y H Q => ∃ (c : Nat) (z : Str), x = .str ⟨#[c]⟩ ∧ y = .str z ∧ Q (.bl (if neg then !decide (c ∈ z.cps.toList) else decide (c ∈ z.cps.toList))) H
def rInAll (K : PySem.W.Frag) (neg : Bool) : R2 := fun x y H Q => rInS1 neg x y H Q ∨ (rInK neg x y H Q ∨ rIn K neg x y H Q)
theorem op_inAll (hu : X.A.units + 1 < cLine) : OpR X (compareOp .In) (rInAll X.K false) := OpR.or op_in_sign (OpR.or (op_inK hu) op_in_seq)
theorem op_notInAll (hu : X.A.units + 1 < cLine) : OpR X (compareOp .NotIn) (rInAll X.K true) := OpR.or op_notIn_sign (OpR.or (op_notInK hu) op_notIn_seq)
theorem gIn_rp {K : PySem.W.Frag} {m : List Addr} {G H : Hp} {S : Store} {v u : V} {x y : D} {d : D} (sr : Sr K T m G S H) (rx : Rp K m G v x) (ry : Rp K m G u y) (h : gIn S x y = some d) : ∃ b, d = .bl b ∧ ∀ (neg : Bool) (Q : VK), Q (.bl (if neg then !b else b)) H → rInAll K neg v u H Q := by
  unfold gIn at h
  split at h
  · rename_i x' z
    cases rx; cases ry
    unfold signIn at h
    split at h
    · rename_i c ec
      cases h
      have ex : x' = ⟨#[c]⟩ := by
        obtain ⟨l⟩ := x'
        have : l = #[c] := by
          apply Array.toList_inj.mp
          simpa using ec
        rw [this]
      subst ex
      exact ⟨_, rfl, fun neg Q q => .inl ⟨c, z, rfl, rfl, q⟩⟩
    · cases h
  · split at h
    · rename_i kvs e1
      cases e2 : kOf x with
      | none => rw [e2] at h; cases h
      | some k =>
        rw [e2] at h; cases h
        obtain ⟨a, ks, rfl, h1, r1⟩ := dct_at sr ry e1
        have hv := kOf_rp rx e2
        subst hv
        have hsome : (valV ks k).isSome = (valD kvs k).isSome := by
          rcases valV_rp r1 k with ⟨n1, n2⟩ | ⟨v', d', n1, n2, _, _⟩ <;> rw [n1, n2] <;> rfl
        refine ⟨_, rfl, fun neg Q q => .inr (.inl ⟨a, valV ks k, rfl, .inl ⟨ks, k, h1, rfl, rfl⟩, ?_⟩)⟩
        rw [hsome]; exact q
    · split at h
      · rename_i ds e1
        split at h
        case isFalse => cases h
        case isTrue hf =>
          cases h
          rw [Bool.and_eq_true] at hf
          obtain ⟨a, xs, rfl, h1, r1⟩ := seqOf_at sr ry e1
          obtain ⟨q1, q2⟩ := inD_rp rx hf.1 r1 hf.2
          refine ⟨_, rfl, fun neg Q q => .inr (.inr ⟨a, xs, rfl, h1, flat_rp rx hf.1, q1, ?_⟩)⟩
          rw [q2]; exact q
      · cases h
theorem opd_in {K : PySem.W.Frag} : OpD K T (rInAll K false) gIn := by
  intro m G S H x y v u d Q sr rx ry h p
  obtain ⟨b, rfl, q⟩ := gIn_rp sr rx ry h
  exact q false Q (p.same sr (.bl _))
theorem opd_notIn {K : PySem.W.Frag} : OpD K T (rInAll K true) gNotIn := by
  intro m G S H x y v u d Q sr rx ry h p
  unfold gNotIn at h
  cases e : gIn S x y with
  | none => rw [e] at h; cases h
  | some d0 =>
    obtain ⟨b, rfl, q⟩ := gIn_rp sr rx ry e
    rw [e] at h; cases h
    exact q true Q (p.same sr (.bl _))
theorem de_in (hu : X.A.units + 1 < cLine) (ha : DE X T W a f1) (hb : DE X T W b f2) (hm : behindInMarks .In b = false := by rfl) : DE X T W (.Compare a [.In] [b] pos) (ex2 gIn f1 f2) := de_cmp (op_inAll hu) opd_in ha hb hm
theorem de_notIn (hu : X.A.units + 1 < cLine) (ha : DE X T W a f1) (hb : DE X T W b f2) (hm : behindInMarks .NotIn b = false := by rfl) : DE X T W (.Compare a [.NotIn] [b] pos) (ex2 gNotIn f1 f2) := de_cmp (op_notInAll hu) opd_notIn ha hb hm
theorem dt_in (hu : X.A.units + 1 < cLine) (ha : DE X T W a f1) (hb : DE X T W b f2) (hm : behindInMarks .In b = false := by rfl) : DT X T W (.Compare a [.In] [b] pos) (tx (ex2 gIn f1 f2)) := dt_cmp (op_inAll hu) opd_in ha hb hm
theorem dt_notIn (hu : X.A.units + 1 < cLine) (ha : DE X T W a f1) (hb : DE X T W b f2) (hm : behindInMarks .NotIn b = false := by rfl) : DT X T W (.Compare a [.NotIn] [b] pos) (tx (ex2 gNotIn f1 f2)) := dt_cmp (op_notInAll hu) opd_notIn ha hb hm

/-! ### chains -/
def exCh (g g' : Store → D → D → Option D) (f1 f2 f3 : Ex) : Ex := fun ρ S => (f1 ρ S).bind fun r1 => (f2 ρ r1.2).bind fun r2 => match g r2.2 r1.1 r2.1 with
  | some (.bl true) => (f3 ρ r2.2).bind fun r3 => lft r3.2 (g' r3.2 r2.1 r3.1)
  | some (.bl false) => .ok (.bl false, r2.2)
  | _ => .stuck
theorem chain_imp {K : PySem.W.Frag} {r r' : R2} {g g' : Store → D → D → Option D} (hg : OpD K T r g) (hg' : OpD K T r' g') {σ : St} {H : Hp} {Q : VK} (h : tE K T W (exCh g g' f1 f2 f3) σ H Q) :
    tChain r r' (tE K T W f1) (tE K T W f2) (tE K T W f3) σ H Q := by
  obtain ⟨ρ, m, G, S, hh, h⟩ := h
  refine tE.bind hh h (fun _ _ q => q) fun x S1 v m1 G1 H1 st1 hh1 rx h1 => ?_
  refine tE.bind hh1 (h1.nextE hh.2 st1) (fun _ _ q => q) fun y S2 u m2 G2 H2 st2 hh2 ry h2 => ?_
  have h2' := h2.nextE hh1.2 st2
  have rx2 := rx.mono st2
  cases e : g S2 x y with
  | none => dsimp only at h2'; rw [e] at h2'; exact h2'.elim
  | some d =>
    dsimp only at h2'; rw [e] at h2'
    cases d with
    | bl k =>
      refine hg m2 G2 S2 H2 x y v u (.bl k) _ hh2.2 rx2 ry e fun v3 m3 G3 H3 st3 sr3 rp3 => ?_
      cases rp3
      refine ⟨k, rfl, ?_⟩
      have hh3 : Here K T σ ρ m3 G3 S2 H3 := ⟨hh2.1.mono st3, sr3⟩
      cases k with
      | true =>
        rw [if_pos rfl]
        refine tE.bind hh3 (h2'.nextE hh2.2 st3) (fun _ _ q => q) fun z S4 w m4 G4 H4 st4 hh4 rz h4 => ?_
        obtain ⟨d', e', p'⟩ := lft_want (h4.nextE hh3.2 st4)
        exact hg' m4 G4 S4 H4 y z u w d' Q hh4.2 ((ry.mono st3).mono st4) rz e' p'
      | false =>
        rw [if_neg Bool.false_ne_true]
        exact (PostE.next hh2.2 st3 h2').same sr3 (.bl _)
    | _ => exact h2'.elim
theorem de_chain {op op' : CmpOp} {r r' : R2} {g g' : Store → D → D → Option D} (ho : OpR X (compareOp op) r) (hg : OpD X.K T r g) (ho' : OpR X (compareOp op') r') (hg' : OpD X.K T r' g') (ha : DE X T W a f1) (hb : DE X T W b f2) (hc : DE X T W c f3)
    (hm : lastMarks [op, op'] [b, c] = false := by with_unfolding_all rfl) : DE X T W (.Compare a [op, op'] [b, c] pos) (exCh g g' f1 f2 f3) := ⟨PE.imp (pe_chain ho ho' ha.pe hb.pe hc.pe hm) fun _ _ _ h => chain_imp hg hg' h⟩
theorem dt_chain {op op' : CmpOp} {r r' : R2} {g g' : Store → D → D → Option D} (ho : OpR X (compareOp op) r) (hg : OpD X.K T r g) (ho' : OpR X (compareOp op') r') (hg' : OpD X.K T r' g') (ha : DE X T W a f1) (hb : DE X T W b f2) (hc : DE X T W c f3)
    (hm : lastMarks [op, op'] [b, c] = false := by with_unfolding_all rfl) : DT X T W (.Compare a [op, op'] [b, c] pos) (tx (exCh g g' f1 f2 f3)) :=
  ⟨PT.imp (pt_chain ho ho' ha.pe hb.pe hc.pe hm) fun _ _ _ h => chain_imp hg hg' (tx_imp h)⟩
theorem de_leLe (ha : DE X T W a f1) (hb : DE X T W b f2) (hc : DE X T W c f3) (hm : lastMarks [.LtE, .LtE] [b, c] = false := by with_unfolding_all rfl) : DE X T W (.Compare a [.LtE, .LtE] [b, c] pos) (exCh gLe gLe f1 f2 f3) := de_chain op_le opd_ord op_le opd_ord ha hb hc hm
theorem dt_leLe (ha : DE X T W a f1) (hb : DE X T W b f2) (hc : DE X T W c f3) (hm : lastMarks [.LtE, .LtE] [b, c] = false := by with_unfolding_all rfl) : DT X T W (.Compare a [.LtE, .LtE] [b, c] pos) (tx (exCh gLe gLe f1 f2 f3)) := dt_chain op_le opd_ord op_le opd_ord ha hb hc hm
theorem de_ltLt (ha : DE X T W a f1) (hb : DE X T W b f2) (hc : DE X T W c f3) (hm : lastMarks [.Lt, .Lt] [b, c] = false := by with_unfolding_all rfl) : DE X T W (.Compare a [.Lt, .Lt] [b, c] pos) (exCh gLt gLt f1 f2 f3) := de_chain op_lt opd_ord op_lt opd_ord ha hb hc hm
theorem dt_ltLt (ha : DE X T W a f1) (hb : DE X T W b f2) (hc : DE X T W c f3) (hm : lastMarks [.Lt, .Lt] [b, c] = false := by with_unfolding_all rfl) : DT X T W (.Compare a [.Lt, .Lt] [b, c] pos) (tx (exCh gLt gLt f1 f2 f3)) := dt_chain op_lt opd_ord op_lt opd_ord ha hb hc hm

/-! ### and, or, not as values, if -/
def exAnd (f1 f2 : Ex) : Ex := fun ρ S => (f1 ρ S).bind fun r => match r.1 with
  | .bl true => f2 ρ r.2
  | .bl false => .ok (.bl false, r.2)
  | _ => .stuck
def exOr (f1 f2 : Ex) : Ex := fun ρ S => (f1 ρ S).bind fun r => match r.1 with
  | .bl false => f2 ρ r.2
  | .bl true => .ok (.bl true, r.2)
  | _ => .stuck
theorem de_one {op : BoolOp} (ha : DE X T W a f) : DE X T W (.BoolOp op [a] pos) f := ⟨pe_one ha.pe⟩
theorem de_and {rest : List Expr} (ha : DE X T W a f1) (hb : DE X T W (.BoolOp .And (b :: rest) pos) f2) : DE X T W (.BoolOp .And (a :: b :: rest) pos) (exAnd f1 f2) := by
  refine ⟨PE.imp (pe_and ha.pe hb.pe) fun σ H Q ⟨ρ, m, G, S, hh, h⟩ => ?_⟩
  refine tE.bind hh h (fun _ _ q => q) fun x S1 v m1 G1 H1 st1 hh1 rx h1 => ?_
  have h1' := h1.nextE hh.2 st1
  cases x with
  | bl k =>
    cases rx
    refine ⟨k, rfl, ?_⟩
    cases k with
    | true => rw [if_pos rfl]; exact ⟨ρ, m1, G1, S1, hh1, h1'⟩
    | false => rw [if_neg Bool.false_ne_true]; exact PostE.same h1' hh1.2 (.bl _)
  | _ => exact h1'.elim
theorem de_or {rest : List Expr} (ha : DE X T W a f1) (hb : DE X T W (.BoolOp .Or (b :: rest) pos) f2) : DE X T W (.BoolOp .Or (a :: b :: rest) pos) (exOr f1 f2) := by
  refine ⟨PE.imp (pe_or ha.pe hb.pe) fun σ H Q ⟨ρ, m, G, S, hh, h⟩ => ?_⟩
  refine tE.bind hh h (fun _ _ q => q) fun x S1 v m1 G1 H1 st1 hh1 rx h1 => ?_
  have h1' := h1.nextE hh.2 st1
  cases x with
  | bl k =>
    cases rx
    refine ⟨k, rfl, ?_⟩
    cases k with
    | false => rw [if_neg Bool.false_ne_true]; exact ⟨ρ, m1, G1, S1, hh1, h1'⟩
    | true => rw [if_pos rfl]; exact PostE.same h1' hh1.2 (.bl _)
  | _ => exact h1'.elim
def gNot : D → Option D
  | .bl k => some (.bl (!k))
  | _ => none
theorem de_not (ha : DE X T W a f) : DE X T W (.UnaryOp .Not a pos) (ex1 gNot f) := by
  refine ⟨PE.imp (pe_not ha.pe) fun σ H Q ⟨ρ, m, G, S, hh, h⟩ => ?_⟩
  refine tE.bind hh h (fun _ _ q => q) fun x S1 v m1 G1 H1 st1 hh1 rx h1 => ?_
  obtain ⟨d, e, p⟩ := lft_want (h1.nextE hh.2 st1)
  cases x with
  | bl k =>
    cases rx
    cases e
    exact ⟨k, rfl, p.same hh1.2 (.bl _)⟩
  | _ => cases e
def exIf (t : Tx) (f1 f2 : Ex) : Ex := fun ρ S => (t ρ S).bind fun r => if r.1 = true then f1 ρ r.2 else f2 ρ r.2
theorem de_if {t : Tx} (hc : DT X T W c t) (ha : DE X T W a f1) (hb : DE X T W b f2) : DE X T W (.IfExp c a b pos) (exIf t f1 f2) := by
  refine ⟨PE.imp (pe_ifExp hc.pt ha.pe hb.pe) fun σ H Q ⟨ρ, m, G, S, hh, h⟩ => ?_⟩
  refine tT.bind hh h (fun _ _ q => q) fun k S1 m1 G1 H1 st1 hh1 h1 => ?_
  have h1' := h1.nextE hh.2 st1
  cases k with
  | true => exact ⟨ρ, m1, G1, S1, hh1, h1'⟩
  | false => exact ⟨ρ, m1, G1, S1, hh1, h1'⟩

/-! ### tests -/
/-- a value's truth -/
def truD (S : Store) : D → Option Bool
  | .non => some false
  | .bl b => some b
  | .int i => some (i != 0)
  | .str y => if y.length ≤ sizeLine then some ((y.length : Int) != 0) else none
  | .tup ds => some (!ds.isEmpty)
  | x => (lstOf S x).map fun ds => !ds.isEmpty
theorem rpl_empty {K : PySem.W.Frag} {m : List Addr} {G : Hp} {vs : List V} {ds : List D} (r : RpL K m G vs ds) : vs.isEmpty = ds.isEmpty := by
  cases r <;> rfl
theorem truD_at {K : PySem.W.Frag} {m : List Addr} {G H : Hp} {S : Store} {v : V} {x : D} {k : Bool} (sr : Sr K T m G S H) (r : Rp K m G v x) (h : truD S x = some k) : TruV K v H k := by
  have lists : ∀ {x : D} {v : V}, Rp K m G v x → (lstOf S x).map (fun ds => !ds.isEmpty) = some k → TruV K v H k := by
    intro x v r h
    cases e : lstOf S x with
    | none => rw [e] at h; cases h
    | some ds =>
      rw [e] at h; cases h
      obtain ⟨a, xs, rfl, h1, h2⟩ := lstOf_at sr r e
      exact .inl ⟨xs, h1, by rw [rpl_empty h2]⟩
  cases x with
  | non => cases r; cases h; exact rfl
  | bl b => cases r; cases h; exact rfl
  | int i => cases r; cases h; exact rfl
  | str y =>
    cases r
    unfold truD at h
    dsimp only at h
    split at h
    case isTrue hl => cases h; exact ⟨hl, rfl⟩
    case isFalse => cases h
  | tup ds =>
    obtain ⟨a, xs, rfl, h1, h2⟩ := tup_at sr r
    cases h
    exact .inr (.inl ⟨xs, h1, by rw [rpl_empty h2]⟩)
  | lst ds => exact lists r h
  | frz ds => exact lists r h
  | dct ds => exact lists r h
  | loc n => exact lists r h
  | xc a c => exact lists r h
def txT (f : Ex) : Tx := fun ρ S => (f ρ S).bind fun r => match truD r.2 r.1 with
  | some k => .ok (k, r.2)
  | none => .stuck
theorem dt_val (ha : DE X T W a f) (he : ∀ whole, isTrue a X.env whole = (do let v ← whole; standAt a.pos; holding [v] (truthy v)) := by intro _; rfl) : DT X T W a (txT f) := by
  refine ⟨PT.imp (pt_truth ha.pe he) fun σ H Q ⟨ρ, m, G, S, hh, h⟩ => ?_⟩
  refine tE.bind hh h (fun _ _ q => q) fun x S1 v m1 G1 H1 st1 hh1 rx h1 => ?_
  have h1' := h1.nextT hh.2 st1
  cases e : truD S1 x with
  | none => dsimp only at h1'; rw [e] at h1'; exact h1'.elim
  | some k =>
    dsimp only at h1'; rw [e] at h1'
    exact ⟨k, truD_at hh1.2 rx e, h1' m1 G1 H1 .refl hh1.2⟩
def txAnd (t u : Tx) : Tx := fun ρ S => (t ρ S).bind fun r => if r.1 = true then u ρ r.2 else .ok (false, r.2)
def txOr (t u : Tx) : Tx := fun ρ S => (t ρ S).bind fun r => if r.1 = true then .ok (true, r.2) else u ρ r.2
def txNot (t : Tx) : Tx := fun ρ S => (t ρ S).bind fun r => .ok (!r.1, r.2)
theorem dw_and1 {t : Tx} (ha : DT X T W a t) : DW X T W (.BoolOp .And [a] pos) t := ⟨pw_and1 ha.pt⟩
theorem dw_or1 {t : Tx} (ha : DT X T W a t) : DW X T W (.BoolOp .Or [a] pos) t := ⟨pw_or1 ha.pt⟩
theorem dw_and {t u : Tx} {rest : List Expr} (ha : DT X T W a t) (hb : DW X T W (.BoolOp .And (b :: rest) pos) u) : DW X T W (.BoolOp .And (a :: b :: rest) pos) (txAnd t u) := by
  refine ⟨PW.imp (pw_and ha.pt hb.pw) fun σ H Q ⟨ρ, m, G, S, hh, h⟩ => ?_⟩
  refine tT.bind hh h (fun _ _ q => q) fun k S1 m1 G1 H1 st1 hh1 h1 => ?_
  have h1' := h1.nextT hh.2 st1
  cases k with
  | true => exact ⟨ρ, m1, G1, S1, hh1, h1'⟩
  | false => exact h1' m1 G1 H1 .refl hh1.2
theorem dw_or {t u : Tx} {rest : List Expr} (ha : DT X T W a t) (hb : DW X T W (.BoolOp .Or (b :: rest) pos) u) : DW X T W (.BoolOp .Or (a :: b :: rest) pos) (txOr t u) := by
  refine ⟨PW.imp (pw_or ha.pt hb.pw) fun σ H Q ⟨ρ, m, G, S, hh, h⟩ => ?_⟩
  refine tT.bind hh h (fun _ _ q => q) fun k S1 m1 G1 H1 st1 hh1 h1 => ?_
  have h1' := h1.nextT hh.2 st1
  cases k with
  | false => exact ⟨ρ, m1, G1, S1, hh1, h1'⟩
  | true => exact h1' m1 G1 H1 .refl hh1.2
theorem DW.dt {t : Tx} (h : DW X T W a t) : DT X T W a t := ⟨h.pw.pt⟩
theorem dt_not {t : Tx} (ha : DT X T W a t) : DT X T W (.UnaryOp .Not a pos) (txNot t) := by
  refine ⟨PT.imp (pt_not ha.pt) fun σ H Q ⟨ρ, m, G, S, hh, h⟩ => ?_⟩
  refine tT.bind hh h (fun _ _ q => q) fun k S1 m1 G1 H1 st1 hh1 h1 => ?_
  exact h1.nextT hh.2 st1 m1 G1 H1 .refl hh1.2

/-! ### argument lists, displays -/
def axN : Ax := fun _ S => .ok ([], S)
def axC (f : Ex) (g : Ax) : Ax := fun ρ S => (f ρ S).bind fun r => (g ρ r.2).bind fun q => .ok (r.1 :: q.1, q.2)
theorem da_nil : DA X T W [] axN := ⟨PA.imp pa_nil fun σ H Q ⟨ρ, m, G, S, hh, h⟩ => h [] m G H .refl hh.2 .nil⟩
theorem da_cons {es : List Expr} {g : Ax} (ha : DE X T W e f) (hr : DA X T W es g) (hs : starEach (e :: es) X.env = (false, eval e X.env) :: starEach es X.env := by rfl) : DA X T W (e :: es) (axC f g) := by
  refine ⟨PA.imp (pa_cons ha.pe hr.pa hs) fun σ H Q ⟨ρ, m, G, S, hh, h⟩ => ?_⟩
  refine tE.bind hh h (fun _ _ q => q) fun x S1 v m1 G1 H1 st1 hh1 rx h1 => ?_
  refine tA.bind hh1 (h1.nextA hh.2 st1) (fun _ _ q => q) fun ys S2 vs m2 G2 H2 st2 hh2 rs h2 => ?_
  exact h2.nextA hh1.2 st2 _ m2 G2 H2 .refl hh2.2 (.cons (rx.mono st2) rs)
def exTup (g : Ax) : Ex := fun ρ S => (g ρ S).bind fun r => if r.1.length ≤ sizeLine then .ok (.tup r.1, r.2) else .stuck
def exLst (g : Ax) : Ex := fun ρ S => (g ρ S).bind fun r => if r.1.length ≤ sizeLine then .ok (.lst r.1, r.2) else .stuck
/-- a list that will change -/
def exNew (g : Ax) : Ex := fun ρ S => (g ρ S).bind fun r => if r.1.length ≤ sizeLine then .ok (.loc r.2.length, r.2 ++ [.lst r.1]) else .stuck
theorem de_tup {es : List Expr} {g : Ax} {x1} (h : DA X T W es g) : DE X T W (.Tuple es x1 pos) (exTup g) := by
  refine ⟨PE.imp (pe_tup h.pa) fun σ H Q ⟨ρ, m, G, S, hh, h⟩ => ?_⟩
  refine tA.bind hh h (fun _ _ q => q) fun ys S2 vs m2 G2 H2 st2 hh2 rs h2 => ?_
  have h2' := h2.nextE hh.2 st2
  dsimp only at h2'
  split at h2'
  case isFalse => exact h2'.elim
  case isTrue hl =>
    exact ⟨by rw [rs.length]; exact hl, fun p np => PostE.alloc h2' hh2.2 np (fun _ z => by cases z) (.tup (.of upd_same) (rpL_alloc hh2.2 np rs))⟩
theorem de_lst {es : List Expr} {g : Ax} (h : DA X T W es g) : DE X T W (.List es pos) (exLst g) := by
  refine ⟨PE.imp (pe_lst h.pa) fun σ H Q ⟨ρ, m, G, S, hh, h⟩ => ?_⟩
  refine tA.bind hh h (fun _ _ q => q) fun ys S2 vs m2 G2 H2 st2 hh2 rs h2 => ?_
  have h2' := h2.nextE hh.2 st2
  dsimp only at h2'
  split at h2'
  case isFalse => exact h2'.elim
  case isTrue hl =>
    exact ⟨by rw [rs.length]; exact hl, fun p np => PostE.alloc h2' hh2.2 np (fun _ z => by cases z) (.lst upd_same (rpL_alloc hh2.2 np rs))⟩
section
variable {K : PySem.W.Frag} {m : List Addr} {G H : Hp} {S : Store} {p : Addr} {o : HO} {cl : Cell}
/-- a new cell of the store -/
theorem Stp.cell (sr : Sr K T m G S H) (np : H p = none) : Stp m G H (m ++ [p]) G (upd H p o) where
  pre := fun n a h => by
    have hn : n < m.length := (List.getElem?_eq_some_iff.mp h).1
    rw [List.getElem?_append_left hn]; exact h
  ge := fun _ _ h => h
  fresh := fun _ h => .inl h
  keep := fun a u h _ _ => by rw [upd_ne (ne_of_none h np)]; exact h
  live := fun a h => by
    by_cases e : a = p
    · rw [e]; exact np
    · rwa [upd_ne e] at h
  mnew := fun a h => by
    rcases List.mem_append.mp h with h | h
    · exact .inl h
    · simp only [List.mem_singleton] at h; subst h; exact .inr np
theorem Sr.newCell (sr : Sr K T m G S H) (np : H p = none) (nt : ∀ ps, o ≠ .tbl ps) (hc : CellOk K (m ++ [p]) G (upd H p o) p cl) : Sr K T (m ++ [p]) G (S ++ [cl]) (upd H p o) where
  fits := fun a u h => by rw [upd_ne (ne_of_none (sr.fits a u h) np)]; exact sr.fits a u h
  ntbl := sr.ntbl
  len := by simp [sr.len]
  nd := by
    rw [List.nodup_append]
    refine ⟨sr.nd, by simp, fun a ha b hb e => ?_⟩
    simp only [List.mem_singleton] at hb
    subst hb; subst e
    obtain ⟨u, hu, _⟩ := sr.there ha
    rw [np] at hu; cases hu
  cell := fun n c a h1 h2 => by
    by_cases hn : n < S.length
    · rw [List.getElem?_append_left hn] at h1
      have hm : n < m.length := by rw [sr.len]; exact hn
      rw [List.getElem?_append_left hm] at h2
      have ht := sr.there (List.mem_of_getElem? h2)
      obtain ⟨u, hu, _⟩ := ht
      exact (sr.cell n c a h1 h2).mono' (Stp.cell (o := o) sr np).pre (fun _ _ q => q) (fun _ _ q => q) (upd_ne (ne_of_none hu np))
    · have hS : n < (S ++ [cl]).length := (List.getElem?_eq_some_iff.mp h1).1
      rw [List.length_append] at hS
      have e : n = S.length := by simp only [List.length_singleton] at hS; omega
      subst e
      rw [List.getElem?_append_right (Nat.le_refl _)] at h1
      rw [← sr.len, List.getElem?_append_right (Nat.le_refl _)] at h2
      simp only [Nat.sub_self, List.getElem?_cons_zero, Option.some.injEq] at h1 h2
      subst h1; subst h2
      exact hc
  nG := fun a h => by
    rcases List.mem_append.mp h with h | h
    · exact sr.nG a h
    · simp only [List.mem_singleton] at h; subst h
      cases q : G a with
      | none => rfl
      | some u => have := sr.fits a u q; rw [np] at this; cases this
  tabs := tabs_ext sr.tabs fun b u h => by rw [upd_ne (ne_of_none h np)]; exact h
theorem PostE.newCell {Q : VK} (h : PostE K T m G H Q (.loc S.length, S ++ [cl])) (sr : Sr K T m G S H) (np : H p = none) (nt : ∀ ps, o ≠ .tbl ps) (hc : CellOk K (m ++ [p]) G (upd H p o) p cl) : Q (.ref p) (upd H p o) :=
  h _ _ _ _ (Stp.cell sr np) (sr.newCell np nt hc) (.loc (by rw [← sr.len, List.getElem?_append_right (Nat.le_refl _)]; simp))
end
theorem de_new {es : List Expr} {g : Ax} (h : DA X T W es g) : DE X T W (.List es pos) (exNew g) := by
  refine ⟨PE.imp (pe_lst h.pa) fun σ H Q ⟨ρ, m, G, S, hh, h⟩ => ?_⟩
  refine tA.bind hh h (fun _ _ q => q) fun ys S2 vs m2 G2 H2 st2 hh2 rs h2 => ?_
  have h2' := h2.nextE hh.2 st2
  dsimp only at h2'
  split at h2'
  case isFalse => exact h2'.elim
  case isTrue hl =>
    refine ⟨by rw [rs.length]; exact hl, fun p np => PostE.newCell (cl := .lst ys) h2' hh2.2 np (fun _ z => by cases z) ⟨vs, upd_same, rs.mono' (Stp.cell (o := .lst vs) hh2.2 np).pre (fun _ _ q => q) fun _ _ q => q⟩⟩
/-- {} -/
def exD0 : Ex := fun _ S => .ok (.dct [], S)
def exN0 : Ex := fun _ S => .ok (.loc S.length, S ++ [.dct []])
theorem de_dct0 : DE X T W (.Dict [] [] pos) exD0 :=
  ⟨PE.imp pe_dnewK fun σ H Q ⟨ρ, m, G, S, hh, h⟩ => fun p np => PostE.alloc h hh.2 np (fun _ z => by cases z) (.dct (.inl upd_same) .nil)⟩
theorem de_newD0 : DE X T W (.Dict [] [] pos) exN0 :=
  ⟨PE.imp pe_dnewK fun σ H Q ⟨ρ, m, G, S, hh, h⟩ => fun p np => PostE.newCell (cl := .dct []) h hh.2 np (fun _ z => by cases z) ⟨[], upd_same, .nil⟩⟩

/-! ### subscripts -/
theorem atI_rp {K : PySem.W.Frag} {m : List Addr} {G : Hp} {vs : List V} {ds : List D} {i : Int} {d : D} (r : RpL K m G vs ds) (h : atI ds i = some d) : ∃ v, atI vs i = some v ∧ Rp K m G v d := by
  unfold atI at *
  rw [r.length]
  cases e : ixN ds.length i with
  | none => rw [e] at h; cases h
  | some j =>
    rw [e] at h
    obtain ⟨v, h1, h2⟩ := r.get (show ds[j]? = some d from h)
    exact ⟨v, h1, h2⟩
/-- a list, a tuple, a text by place; a dict by key -/
def gIx (S : Store) (x i : D) : Option D := match x, i with
  | .str z, .int i => if z.length ≤ sizeLine then (atI z.cps.toList i).map fun c => .str ⟨#[c]⟩ else none
  | x, i => match dctOf S x with
    | some kvs => (kOf i).bind (valD kvs)
    | none => match i with
      | .int i => (seqOf S x).bind fun ds => atI ds i
      | _ => none
theorem opd_ix {K : PySem.W.Frag} : OpD K T (fun x y H Q => rIx K x y H Q) (fun S x i => match dctOf S x with | some _ => none | none => gIx S x i) := by
  intro m G S H x y v u d Q sr rx ry h p
  cases e0 : dctOf S x with
  | some kvs => dsimp only at h; rw [e0] at h; cases h
  | none =>
    dsimp only at h
    rw [e0] at h
    dsimp only at h
    unfold gIx at h
    split at h
    · split at h
      case isFalse => cases h
      case isTrue hl =>
        rename_i z i
        cases rx; cases ry
        cases e : atI z.cps.toList i with
        | none => rw [e] at h; cases h
        | some c =>
          rw [e] at h; cases h
          exact .inr (.inr ⟨z, i, c, rfl, rfl, hl, e, p.same sr (.str _)⟩)
    · rw [e0] at h
      dsimp only at h
      split at h
      · rename_i i hne
        cases ry
        cases e : seqOf S x with
        | none => rw [e] at h; cases h
        | some ds =>
          rw [e] at h
          have h : atI ds i = some d := h
          obtain ⟨a, xs, rfl, h1, h2⟩ := seqOf_at sr rx e
          obtain ⟨w, h3, h4⟩ := atI_rp h2 h
          rcases h1 with h1 | h1
          · exact .inl ⟨a, xs, i, w, rfl, rfl, h1, h3, p.same sr h4⟩
          · exact .inr (.inl ⟨a, xs, i, w, rfl, rfl, h1, h3, p.same sr h4⟩)
      · cases h
theorem de_ix (hu : X.A.units + 1 < cLine) (ha : DE X T W a f1) (hb : DE X T W b f2) (hs : PlainIx b := by exact fun _ _ => rfl) (hs2 : NoSl b := by exact fun _ _ => rfl) : DE X T W (.Subscript a b pos) (ex2 gIx f1 f2) := by
  refine ⟨PE.imp (PE.or (pe_ix ix_seq ha.pe hb.pe hs) (pe_dget hu ha.pe hb.pe hs2)) fun σ H Q ⟨ρ, m, G, S, hh, h⟩ => ?_⟩
  -- the choice, by what the data say
  have pick : (∃ r1 r2, f1 ρ S = .ok r1 ∧ f2 ρ r1.2 = .ok r2 ∧ (dctOf r2.2 r1.1).isSome = true) ∨ ¬ (∃ r1 r2, f1 ρ S = .ok r1 ∧ f2 ρ r1.2 = .ok r2 ∧ (dctOf r2.2 r1.1).isSome = true) := Classical.em _
  rcases pick with ⟨r1, r2, q1, q2, q3⟩ | no
  · refine .inr ?_
    obtain ⟨x, S1⟩ := r1
    obtain ⟨y, S2⟩ := r2
    unfold ex2 at h
    rw [q1] at h
    refine ⟨ρ, m, G, S, hh, ?_⟩
    rw [q1]
    intro v m1 G1 H1 st1 sr1 rx
    have hh1 : Here X.K T σ ρ m1 G1 S1 H1 := ⟨hh.1.mono st1, sr1⟩
    refine ⟨ρ, m1, G1, S1, hh1, ?_⟩
    have h1 := Wants.nextE (W := W) (σ := σ) hh.2 st1 h
    simp only [Res.bind_ok, q2] at h1
    rw [q2]
    intro u m2 G2 H2 st2 sr2 ry
    obtain ⟨d, e, p⟩ := lft_want (h1.nextE hh1.2 st2)
    have hk : ∃ kvs, dctOf S2 x = some kvs := Option.isSome_iff_exists.mp q3
    obtain ⟨kvs, ek⟩ := hk
    have e' : (kOf y).bind (valD kvs) = some d := by
      unfold gIx at e
      split at e
      · cases ek
      · rw [ek] at e; exact e
    cases e3 : kOf y with
    | none => rw [e3] at e'; cases e'
    | some k =>
      rw [e3] at e'
      have e' : valD kvs k = some d := e'
      obtain ⟨A, ks, rfl, g1, g2⟩ := dct_at sr2 (rx.mono st2) ek
      have hv := kOf_rp ry e3
      subst hv
      rcases valV_rp g2 k with ⟨n1, n2⟩ | ⟨w, d', n1, n2, n3, _⟩
      · rw [n2] at e'; cases e'
      · rw [n2] at e'; cases e'
        exact ⟨A, w, rfl, .inl ⟨ks, k, g1, rfl, n1.symm⟩, p.same sr2 n3⟩
  · refine .inl (op2_imp (g := fun S x i => match dctOf S x with | some _ => none | none => gIx S x i) opd_ix ⟨ρ, m, G, S, hh, ?_⟩)
    unfold ex2 at h ⊢
    cases q1 : f1 ρ S with
    | stuck => rw [q1] at h; exact h
    | exc c S' => rw [q1] at h; exact h
    | ok r1 =>
      rw [q1] at h
      simp only [Res.bind_ok] at h ⊢
      cases q2 : f2 ρ r1.2 with
      | stuck => rw [q2] at h; exact h
      | exc c S' => rw [q2] at h; exact h
      | ok r2 =>
        rw [q2] at h
        simp only [Res.bind_ok] at h ⊢
        cases q3 : dctOf r2.2 r1.1 with
        | none => exact h
        | some kvs => exact absurd ⟨r1, r2, q1, q2, by rw [q3]; rfl⟩ no

/-! ### slices -/
abbrev Ox := DEnv → Store → Res (Option Int × Store)
def PostO (K : PySem.W.Frag) (T : List (Addr × Str)) (m : List Addr) (G H : Hp) (Q : Option Int → Hp → Prop) : Option Int × Store → Prop := fun r => ∀ m' G' H', Stp m G H m' G' H' → Sr K T m' G' r.2 H' → Q r.1 H'
def tOd (K : PySem.W.Frag) (T : List (Addr × Str)) (W : WX) (f : Ox) : TO := fun σ H Q => ∃ ρ m G S, Here K T σ ρ m G S H ∧ Wants (f ρ S) (PostO K T m G H Q) (PostX K T W σ m G H)
structure DO (X : Cx) (T : List (Addr × Str)) (W : WX) (e : Option Expr) (f : Ox) : Prop where
  po : PO X e (tOd X.K T W f)
theorem PO.imp {X : Cx} {e : Option Expr} {t t' : TO} (h : PO X e t) (i : ∀ σ H Q, t' σ H Q → t σ H Q) : PO X e t' := ⟨fun pins s σ H Q I q => h.run pins s σ H Q I (i σ H Q q)⟩
def oxN : Ox := fun _ S => .ok (none, S)
def oxS (f : Ex) : Ox := fun ρ S => (f ρ S).bind fun r => match r.1 with
  | .int i => .ok (some i, r.2)
  | _ => .stuck
theorem do_none : DO X T W none oxN := ⟨PO.imp po_none fun σ H Q ⟨ρ, m, G, S, hh, h⟩ => h m G H .refl hh.2⟩
theorem do_some (ha : DE X T W e f) : DO X T W (some e) (oxS f) := by
  refine ⟨PO.imp (po_some ha.pe) fun σ H Q ⟨ρ, m, G, S, hh, h⟩ => ?_⟩
  refine ⟨ρ, m, G, S, hh, (Wants.bind h).imp (fun r hr v m' G' H' st sr rp => ?_) fun _ _ q => q⟩
  obtain ⟨d, S'⟩ := r
  cases d with
  | int i =>
    cases rp
    exact ⟨i, rfl, hr m' G' H' st sr⟩
  | _ => exact (show False from hr).elim
theorem tOd.bind {K : PySem.W.Frag} {σ : St} {ρ : DEnv} {m : List Addr} {G H : Hp} {S : Store} {α : Type} {f : Ox} {k : Option Int × Store → Res α} {A : α → Prop} {B : Addr → Store → Prop} {Q1 : Option Int → Hp → Prop} (hh : Here K T σ ρ m G S H) (h : Wants ((f ρ S).bind k) A B)
    (hB : ∀ c S', B c S' → PostX K T W σ m G H c S')
    (next : ∀ b S1 m1 G1 H1, Stp m G H m1 G1 H1 → Here K T σ ρ m1 G1 S1 H1 → Wants (k (b, S1)) A B → Q1 b H1) : tOd K T W f σ H Q1 := by
  refine ⟨ρ, m, G, S, hh, h.bind.imp (fun r hr m' G' H' st sr => ?_) hB⟩
  exact next r.1 r.2 m' G' H' st ⟨hh.1.mono st, sr⟩ hr
def cutD (xs : List D) (lo hi : Option Int) : List D := (xs.drop (HT.sIx xs.length 0 lo)).take (HT.sIx xs.length xs.length hi - HT.sIx xs.length 0 lo)
theorem cutD_rp {K : PySem.W.Frag} {m : List Addr} {G : Hp} {vs : List V} {ds : List D} (r : RpL K m G vs ds) (lo hi : Option Int) : RpL K m G (cutV vs lo hi) (cutD ds lo hi) := by
  unfold cutV cutD
  rw [r.length]
  exact (r.drop _).take _
def gSl (S : Store) (x : D) (lo hi : Option Int) : Option D := match x with
  | .str z => if z.length ≤ sizeLine then some (.str (cutS z lo hi)) else none
  | x => (lstOf S x).map fun ds => .lst (cutD ds lo hi)
def exSl (f : Ex) (lo hi : Ox) : Ex := fun ρ S => (f ρ S).bind fun r => (lo ρ r.2).bind fun l => (hi ρ l.2).bind fun u => lft u.2 (gSl u.2 r.1 l.1 u.1)
theorem de_slice {lo hi : Option Expr} {fl fh : Ox} {p2 : Pos} (ha : DE X T W e f) (hl : DO X T W lo fl) (hh' : DO X T W hi fh) : DE X T W (.Subscript e (.Slice lo hi none p2) pos) (exSl f fl fh) := by
  refine ⟨PE.imp (pe_slice (SlR.or sl_list sl_str) ha.pe hl.po hh'.po) fun σ H Q ⟨ρ, m, G, S, hh, h⟩ => ?_⟩
  refine tE.bind hh h (fun _ _ q => q) fun x S1 v m1 G1 H1 st1 hh1 rx h1 => ?_
  refine tOd.bind hh1 (h1.nextE hh.2 st1) (fun _ _ q => q) fun l S2 m2 G2 H2 st2 hh2 h2 => ?_
  refine tOd.bind hh2 (h2.nextE hh1.2 st2) (fun _ _ q => q) fun u S3 m3 G3 H3 st3 hh3 h3 => ?_
  obtain ⟨d, e, p⟩ := lft_want (h3.nextE hh2.2 st3)
  have rx3 := (rx.mono st2).mono st3
  have lists : ∀ {x : D}, Rp X.K m3 G3 v x → (lstOf S3 x).map (fun ds => D.lst (cutD ds l u)) = some d → rSlL X.K v l u H3 Q ∨ rSlS v l u H3 Q := by
    intro x rx e
    cases e1 : lstOf S3 x with
    | none => rw [e1] at e; cases e
    | some ds =>
      rw [e1] at e; cases e
      obtain ⟨a, xs, rfl, h1, h2⟩ := lstOf_at hh3.2 rx e1
      exact .inl ⟨a, xs, rfl, h1, fun p0 np => p.alloc hh3.2 np (fun _ z => by cases z) (.lst upd_same (rpL_alloc hh3.2 np (cutD_rp h2 l u)))⟩
  cases x with
  | str z =>
    cases rx3
    unfold gSl at e
    dsimp only at e
    split at e
    case isFalse => cases e
    case isTrue hl => cases e; exact .inr ⟨z, rfl, hl, p.same hh3.2 (.str _)⟩
  | _ => exact lists rx3 e
/-- xs[::-1] -/
def gRev (S : Store) (x : D) : Option D := (lstOf S x).map fun ds => .lst ds.reverse
def ex1S (g : Store → D → Option D) (f : Ex) : Ex := fun ρ S => (f ρ S).bind fun r => lft r.2 (g r.2 r.1)
theorem de_rev {k : Nat} {p1 p2 p3 : Pos} (ha : DE X T W e f) : DE X T W (.Subscript e (.Slice none none (some (.UnaryOp .USub (.Constant (.int 1) k p1) p2)) p3) pos) (ex1S gRev f) := by
  refine ⟨PE.imp (pe_revL ha.pe) fun σ H Q ⟨ρ, m, G, S, hh, h⟩ => ?_⟩
  refine tE.bind hh h (fun _ _ q => q) fun x S1 v m1 G1 H1 st1 hh1 rx h1 => ?_
  obtain ⟨d, e, p⟩ := lft_want (h1.nextE hh.2 st1)
  unfold gRev at e
  cases e1 : lstOf S1 x with
  | none => rw [e1] at e; cases e
  | some ds =>
    rw [e1] at e; cases e
    obtain ⟨a, xs, rfl, h1, h2⟩ := lstOf_at hh1.2 rx e1
    exact ⟨a, xs, rfl, h1, fun p0 np => p.alloc hh1.2 np (fun _ z => by cases z) (.lst upd_same (rpL_alloc hh1.2 np h2.reverse))⟩

/-! ### displays of dicts -/
/-- the pairs of a written dict -/
abbrev Px := DEnv → Store → Res (List (D × D) × Store)
def pxN : Px := fun _ S => .ok ([], S)
def pxC (fk fv : Ex) (g : Px) : Px := fun ρ S => (fk ρ S).bind fun r => (fv ρ r.2).bind fun q => (g ρ q.2).bind fun t => .ok ((r.1, q.1) :: t.1, t.2)
inductive RpP (K : PySem.W.Frag) (m : List Addr) (G : Hp) : List (V × V) → List (D × D) → Prop
  | nil : RpP K m G [] []
  | cons {a b : V} {c d : D} {vs : List (V × V)} {ds : List (D × D)} : Rp K m G a c → Rp K m G b d → RpP K m G vs ds → RpP K m G ((a, b) :: vs) ((c, d) :: ds)
def PostP (K : PySem.W.Frag) (T : List (Addr × Str)) (m : List Addr) (G H : Hp) (Q : List (V × V) → Hp → Prop) : List (D × D) × Store → Prop := fun r => ∀ vs m' G' H', Stp m G H m' G' H' → Sr K T m' G' r.2 H' → RpP K m' G' vs r.1 → Q vs H'
structure DP (X : Cx) (T : List (Addr × Str)) (W : WX) (pos : Pos) (ks : List (Option Expr)) (vs : List Expr) (f : Px) : Prop where
  pp : ∃ trs, PPs X pos ks vs trs ∧ ∀ (σ : St) (ρ : DEnv) (m : List Addr) (G : Hp) (S : Store) (H : Hp) (Q : List (V × V) → Hp → Prop), Here X.K T σ ρ m G S H → Wants (f ρ S) (PostP X.K T m G H Q) (PostX X.K T W σ m G H) → tPairs trs σ H Q
theorem RpP.mono {K : PySem.W.Frag} {m m1 : List Addr} {G G1 H H1 : Hp} (st : Stp m G H m1 G1 H1) {vs : List (V × V)} {ds : List (D × D)} (r : RpP K m G vs ds) : RpP K m1 G1 vs ds := by
  induction r with
  | nil => exact .nil
  | cons h1 h2 _ ih => exact .cons (h1.mono st) (h2.mono st) ih
theorem dp_nil : DP X T W pos [] [] pxN := ⟨[], pps_nil, fun σ ρ m G S H Q hh h => h [] m G H .refl hh.2 .nil⟩
theorem dp_cons {k v : Expr} {ks : List (Option Expr)} {vs : List Expr} {fk fv : Ex} {g : Px} (hk : DE X T W k fk) (hv : DE X T W v fv) (hr : DP X T W pos ks vs g) : DP X T W pos (some k :: ks) (v :: vs) (pxC fk fv g) := by
  obtain ⟨trs, h1, h2⟩ := hr.pp
  refine ⟨_, pps_cons hk.pe hv.pe h1, fun σ ρ m G S H Q hh h => ?_⟩
  refine tE.bind hh h (fun _ _ q => q) fun x S1 v m1 G1 H1 st1 hh1 rx h1' => ?_
  have h1' : Wants _ (PostP X.K T m1 G1 H1 Q) (PostX X.K T W σ m1 G1 H1) := h1'.imp (fun _ q v m' G' H' a => q v m' G' H' (st1.trans a hh.2.fits)) fun _ _ q => q.next hh.2 st1
  refine tE.bind hh1 h1' (fun _ _ q => q) fun y S2 u m2 G2 H2 st2 hh2 ry h2' => ?_
  have h2' : Wants _ (PostP X.K T m2 G2 H2 Q) (PostX X.K T W σ m2 G2 H2) := h2'.imp (fun _ q v m' G' H' a => q v m' G' H' (st2.trans a hh1.2.fits)) fun _ _ q => q.next hh1.2 st2
  refine h2 σ ρ m2 G2 S2 H2 _ hh2 ((Wants.bind h2').imp (fun r hr vs' m' G' H' st sr rp => ?_) fun _ _ q => q)
  exact hr _ m' G' H' st sr (.cons ((rx.mono st2).mono st) (ry.mono st) rp)
def keysOf : List (D × D) → Option (List (Key × D))
  | [] => some []
  | (k, v) :: r => match kOf k, keysOf r with
    | some k, some r => some ((k, v) :: r)
    | _, _ => none
def mergeD (kvs more : List (Key × D)) : List (Key × D) := more.foldl (fun acc kv => putD acc kv.1 kv.2) kvs
where putD (kvs : List (Key × D)) (k : Key) (v : D) : List (Key × D) := if kvs.any (fun kv => decide (kv.1 = k)) then kvs.map (fun kv => if kv.1 = k then (kv.1, v) else kv) else kvs ++ [(k, v)]

/-! ### an object that grows unseen, then is told -/
section
variable {K : PySem.W.Frag} {m m2 : List Addr} {G G2 H H2 : Hp} {S S2 : Store} {p : Addr} {o o' : HO}
def Plain (o : HO) : Prop := (∀ ps, o ≠ .tbl ps) ∧ ∀ φ, o ≠ .ext φ
theorem plain_lst {xs : List V} : Plain (.lst xs) := ⟨fun _ z => (by cases z), fun _ z => (by cases z)⟩
theorem plain_dK {xs : List (Key × V)} : Plain (.dK xs) := ⟨fun _ z => (by cases z), fun _ z => (by cases z)⟩
theorem plain_ins {C dx : Addr} {xs : List (Str × V)} : Plain (.ins C dx xs) := ⟨fun _ z => (by cases z), fun _ z => (by cases z)⟩
theorem plain_frz {ob : Obj} {u : HO} : Plain (.frz ob u) := ⟨fun _ z => (by cases z), fun _ z => (by cases z)⟩
theorem tabs_change {T : List (Addr × Str)} (h : LamX.Tabs T H) (hp : H p = some o) (pl : Plain o) : LamX.Tabs T (upd H p o') := fun q hq => by
  obtain ⟨ps, h1, h2, h3⟩ := h q hq
  have n1 : q.1 ≠ p := fun e => by rw [e, hp] at h1; exact pl.1 ps (Option.some.inj h1)
  refine ⟨ps, by rw [upd_ne n1]; exact h1, h2, fun pos cv hc => ?_⟩
  obtain ⟨c, e, hc2⟩ := h3 pos cv hc
  have n2 : c ≠ p := fun z => by rw [z, hp] at hc2; exact pl.2 _ (Option.some.inj hc2)
  exact ⟨c, e, by rw [upd_ne n2]; exact hc2⟩
theorem Stp.hide (np : H p = none) : Stp m G H m G (upd H p o) where
  pre := fun _ _ h => h
  ge := fun _ _ h => h
  fresh := fun _ h => .inl h
  keep := fun a u h _ _ => by rw [upd_ne (ne_of_none h np)]; exact h
  live := fun a h => by
    by_cases e : a = p
    · rw [e]; exact np
    · rwa [upd_ne e] at h
  mnew := fun _ h => .inl h
theorem Sr.notm (sr : Sr K T m G S H) (np : H p = none) : p ∉ m := fun h => by
  obtain ⟨u, hu, _⟩ := sr.there h
  rw [np] at hu; cases hu
theorem Sr.notG (sr : Sr K T m G S H) (np : H p = none) : G p = none := by
  cases q : G p with
  | none => rfl
  | some u => have := sr.fits p u q; rw [np] at this; cases this
theorem Sr.hide (sr : Sr K T m G S H) (np : H p = none) (nt : ∀ ps, o ≠ .tbl ps) : Sr K T m G S (upd H p o) where
  fits := fun a u h => by rw [upd_ne (ne_of_none (sr.fits a u h) np)]; exact sr.fits a u h
  ntbl := sr.ntbl
  len := sr.len
  nd := sr.nd
  cell := fun n c a h1 h2 => by
    obtain ⟨u, hu, _⟩ := sr.there (List.mem_of_getElem? h2)
    exact (sr.cell n c a h1 h2).mono' (fun _ _ q => q) (fun _ _ q => q) (fun _ _ q => q) (upd_ne (ne_of_none hu np))
  nG := sr.nG
  tabs := tabs_ext sr.tabs fun b u h => by rw [upd_ne (ne_of_none h np)]; exact h
/-- what is neither told nor a cell may change -/
theorem Sr.chg (sr : Sr K T m G S H) (hp : H p = some o) (pl : Plain o) (hm : p ∉ m) (hG : G p = none) : Sr K T m G S (upd H p o') where
  fits := fun a u h => by
    have n : a ≠ p := fun e => by rw [e, hG] at h; cases h
    rw [upd_ne n]; exact sr.fits a u h
  ntbl := sr.ntbl
  len := sr.len
  nd := sr.nd
  cell := fun n c a h1 h2 => by
    have hne : a ≠ p := fun e => hm (e ▸ List.mem_of_getElem? h2)
    exact (sr.cell n c a h1 h2).mono' (fun _ _ q => q) (fun _ _ q => q) (fun _ _ q => q) (upd_ne hne)
  nG := sr.nG
  tabs := tabs_change sr.tabs hp pl
theorem Stp.chg (st : Stp m G H m2 G2 H2) (np : H p = none) : Stp m G H m2 G2 (upd H2 p o) where
  pre := st.pre
  ge := st.ge
  fresh := st.fresh
  keep := fun a u h n hm => by rw [upd_ne (ne_of_none h np)]; exact st.keep a u h n hm
  live := fun a h => by
    by_cases e : a = p
    · rw [e]; exact np
    · rw [upd_ne e] at h; exact st.live a h
  mnew := st.mnew
theorem Stp.reveal (sr : Sr K T m G S H) (st : Stp m G H m2 G2 H2) (np : H p = none) : Stp m G H m2 (upd G2 p o) (upd H2 p o) where
  pre := st.pre
  ge := fun a u h => by rw [upd_ne (ne_of_none (sr.fits a u h) np)]; exact st.ge a u h
  fresh := fun a h => by
    by_cases e : a = p
    · rw [e]; exact .inr np
    · rw [upd_ne e]; exact st.fresh a h
  keep := fun a u h n hm => by rw [upd_ne (ne_of_none h np)]; exact st.keep a u h n hm
  live := fun a h => by
    by_cases e : a = p
    · rw [e]; exact np
    · rw [upd_ne e] at h; exact st.live a h
  mnew := st.mnew
theorem ge_upd (hG : G p = none) : (∀ a u, G a = some u → upd G p o a = some u) := fun a u h => by
  have n : a ≠ p := fun e => by rw [e, hG] at h; cases h
  rw [upd_ne n]; exact h
theorem rd_upd (hG : G p = none) : (∀ a u, Rd G a u → Rd (upd G p o) a u) := fun a u h => by
  rcases h with h | ⟨ob, h⟩
  · exact .inl (ge_upd hG _ _ h)
  · exact .inr ⟨ob, ge_upd hG _ _ h⟩
theorem Sr.reveal (sr : Sr K T m G S H) (hp : H p = some o) (pl : Plain o) (hm : p ∉ m) (hG : G p = none) (nt : ∀ ps, o' ≠ .tbl ps) : Sr K T m (upd G p o') S (upd H p o') where
  fits := fun a u h => by
    by_cases e : a = p
    · subst e; rw [upd_same] at h ⊢; exact h
    · rw [upd_ne e] at h ⊢; exact sr.fits a u h
  ntbl := fun a ps h => by
    by_cases e : a = p
    · subst e; rw [upd_same] at h; exact nt ps (Option.some.inj h)
    · rw [upd_ne e] at h; exact sr.ntbl a ps h
  len := sr.len
  nd := sr.nd
  cell := fun n c a h1 h2 => by
    have hne : a ≠ p := fun e => hm (e ▸ List.mem_of_getElem? h2)
    exact (sr.cell n c a h1 h2).mono' (fun _ _ q => q) (fun a xs q => ge_upd hG a _ q) (rd_upd hG) (upd_ne hne)
  nG := fun a h => by
    have hne : a ≠ p := fun e => hm (e ▸ h)
    rw [upd_ne hne]; exact sr.nG a h
  tabs := tabs_change sr.tabs hp pl
/-- behind an evaluation what was hidden is as it was -/
theorem Stp.hidden (sr : Sr K T m G S H) (np : H p = none) (nt : ∀ ps, o ≠ .tbl ps) (st : Stp m G (upd H p o) m2 G2 H2) : H2 p = some o ∧ p ∉ m2 ∧ G2 p = none := by
  refine ⟨st.keep p o upd_same nt (sr.notm np), fun h => ?_, ?_⟩
  · rcases st.mnew p h with q | q
    · exact sr.notm np q
    · rw [upd_same] at q; cases q
  · rcases st.fresh p (sr.notG np) with q | q
    · exact q
    · rw [upd_same] at q; cases q
/-- a cell is written -/
theorem Stp.write {a : Addr} (sr : Sr K T m G S H) (hm : a ∈ m) : Stp m G H m G (upd H a o) where
  pre := fun _ _ h => h
  ge := fun _ _ h => h
  fresh := fun _ h => .inl h
  keep := fun b u h _ hb => by
    have n : b ≠ a := fun e => hb (e ▸ hm)
    rw [upd_ne n]; exact h
  live := fun b h => by
    by_cases e : b = a
    · rw [e, upd_same] at h; cases h
    · rwa [upd_ne e] at h
  mnew := fun _ h => .inl h
theorem Sr.write {a : Addr} {n : Nat} {c : Cell} (sr : Sr K T m G S H) (ha : m[n]? = some a) (hp : H a = some o) (pl : Plain o) (hc : CellOk K m G (upd H a o') a c) : Sr K T m G (S.set n c) (upd H a o') where
  fits := fun b u h => by
    have hn : b ≠ a := fun e => by rw [e, sr.nG a (List.mem_of_getElem? ha)] at h; cases h
    rw [upd_ne hn]; exact sr.fits b u h
  ntbl := sr.ntbl
  len := by simp [sr.len]
  nd := sr.nd
  cell := fun k d b h1 h2 => by
    have hn : n < m.length := (List.getElem?_eq_some_iff.mp ha).1
    by_cases e : k = n
    · subst e
      rw [ha] at h2; cases h2
      rw [List.getElem?_set_self (by rw [← sr.len]; exact hn)] at h1
      cases h1
      exact hc
    · rw [List.getElem?_set_ne (Ne.symm e)] at h1
      have hne : b ≠ a := fun z => by
        subst z
        obtain ⟨i1, e1⟩ := List.getElem?_eq_some_iff.mp ha
        obtain ⟨i2, e2⟩ := List.getElem?_eq_some_iff.mp h2
        exact e ((List.getElem_inj sr.nd).mp (e2.trans e1.symm))
      exact (sr.cell k d b h1 h2).mono' (fun _ _ q => q) (fun _ _ q => q) (fun _ _ q => q) (upd_ne hne)
  nG := sr.nG
  tabs := tabs_change sr.tabs hp pl
end

/-! ### written dicts -/
theorem keysOf_rp {K : PySem.W.Frag} {m : List Addr} {G : Hp} {ps : List (V × V)} {ds : List (D × D)} {kvs : List (Key × D)} (r : RpP K m G ps ds) (h : keysOf ds = some kvs) : ∃ ks : List (Key × V), ps = ks.map (fun kv => (kV kv.1, kv.2)) ∧ RpK K m G ks kvs := by
  induction r generalizing kvs with
  | nil => cases h; exact ⟨[], rfl, .nil⟩
  | @cons a b c d vs ds h1 h2 _ ih =>
    unfold keysOf at h
    cases e1 : kOf c with
    | none => rw [e1] at h; cases h
    | some k =>
      cases e2 : keysOf ds with
      | none => rw [e1, e2] at h; cases h
      | some r =>
        rw [e1, e2] at h; cases h
        obtain ⟨ks, q1, q2⟩ := ih e2
        exact ⟨(k, b) :: ks, by rw [q1, kOf_rp h1 e1]; rfl, .cons h2 q2⟩
theorem any_rp {K : PySem.W.Frag} {m : List Addr} {G : Hp} {ks : List (Key × V)} {kvs : List (Key × D)} (r : RpK K m G ks kvs) (k : Key) : (ks.any fun kv => decide (kv.1 = k)) = kvs.any fun kv => decide (kv.1 = k) := by
  induction kvs generalizing ks with
  | nil => cases r; rfl
  | cons p kvs ih =>
    obtain ⟨k', d⟩ := p
    cases r with
    | cons h1 h2 => rw [List.any_cons, List.any_cons, ih h2]
theorem map_rp {K : PySem.W.Frag} {m : List Addr} {G : Hp} {ks : List (Key × V)} {kvs : List (Key × D)} (r : RpK K m G ks kvs) (k : Key) {v : V} {d : D} (q : Rp K m G v d) :
    RpK K m G (ks.map fun kv => if kv.1 = k then (kv.1, v) else kv) (kvs.map fun kv => if kv.1 = k then (kv.1, d) else kv) := by
  induction kvs generalizing ks with
  | nil => cases r; exact .nil
  | cons p kvs ih =>
    obtain ⟨k', d'⟩ := p
    cases r with
    | cons h1 h2 =>
      by_cases e : k' = k
      · simp only [List.map_cons, e, if_true]
        exact .cons q (ih h2)
      · simp only [List.map_cons, e, if_false]
        exact .cons h1 (ih h2)
theorem RpK.append {K : PySem.W.Frag} {m : List Addr} {G : Hp} : ∀ {vs ws : List (Key × V)} {ds es : List (Key × D)}, RpK K m G vs ds → RpK K m G ws es → RpK K m G (vs ++ ws) (ds ++ es)
  | _, _, [], _, h, h' => by cases h; exact h'
  | _, _, d :: ds, _, h, h' => by
    cases h with
    | cons h1 h2 => exact .cons h1 (RpK.append h2 h')
abbrev putD : List (Key × D) → Key → D → List (Key × D) := mergeD.putD
theorem put_rp {K : PySem.W.Frag} {m : List Addr} {G : Hp} {ks : List (Key × V)} {kvs : List (Key × D)} (r : RpK K m G ks kvs) (k : Key) {v : V} {d : D} (q : Rp K m G v d) : RpK K m G (putK ks k v) (putD kvs k d) := by
  unfold putK putD mergeD.putD
  rw [any_rp r k]
  split
  · exact map_rp r k q
  · exact r.append (.cons q .nil)
theorem merge_rp {K : PySem.W.Frag} {m : List Addr} {G : Hp} {ms : List (Key × V)} {mvs : List (Key × D)} (r : RpK K m G ms mvs) : ∀ {ks : List (Key × V)} {kvs : List (Key × D)}, RpK K m G ks kvs → RpK K m G (mergeK ks ms) (mergeD kvs mvs) := by
  induction mvs generalizing ms with
  | nil => intro ks kvs h; cases r; exact h
  | cons p mvs ih =>
    obtain ⟨k', d'⟩ := p
    intro ks kvs h
    cases r with
    | cons h1 h2 => exact ih h2 (put_rp h k' h1)
def exDct (g : Px) : Ex := fun ρ S => (g ρ S).bind fun r => match keysOf r.1 with
  | some kvs => if kvs.length ≤ 15 then .ok (.dct (mergeD [] kvs), r.2) else .stuck
  | none => .stuck
theorem de_dct {ks : List (Option Expr)} {vs : List Expr} {g : Px} (h : DP X T W pos ks vs g) (hall : ks.all (·.isSome) = true := by rfl) (hl : ks.length = vs.length := by rfl) (h0 : ks ≠ [] := by exact fun z => by cases z) (h15 : ks.length ≤ 15 := by decide) :
    DE X T W (.Dict ks vs pos) (exDct g) := by
  obtain ⟨trs, h1, h2⟩ := h.pp
  refine ⟨PE.imp (pe_disp h1 hall hl h0 h15) fun σ H Q ⟨ρ, m, G, S, hh, hw⟩ => fun p np => ?_⟩
  have nt : ∀ ps, (HO.dK [] : HO) ≠ .tbl ps := fun _ z => by cases z
  have hh1 : Here X.K T σ ρ m G S (upd H p (.dK [])) := ⟨hh.1, hh.2.hide np nt⟩
  have st1 : Stp m G H m G (upd H p (.dK [])) := Stp.hide np
  refine h2 σ ρ m G S _ _ hh1 ((Wants.bind hw).imp (fun r hr vs' m' G' H' st sr rp => ?_) fun c S' q => PostX.next hh.2 st1 q)
  obtain ⟨ps, S'⟩ := r
  dsimp only at hr
  cases e : keysOf ps with
  | none => rw [e] at hr; exact hr.elim
  | some kvs =>
    rw [e] at hr
    dsimp only at hr
    split at hr
    case isFalse => exact hr.elim
    case isTrue h15 =>
      obtain ⟨hp, hm, hG⟩ := Stp.hidden hh.2 np nt st
      obtain ⟨ks', q1, q2⟩ := keysOf_rp rp e
      refine ⟨hp, ks', q1, by rw [q2.length]; exact h15, ?_⟩
      refine hr _ m' _ _ (Stp.reveal hh.2 (st1.trans st hh.2.fits) np) (sr.reveal hp plain_dK hm hG fun _ z => by cases z) (.dct (.inl upd_same) ?_)
      exact (merge_rp q2 .nil).mono' (fun _ _ q => q) (fun a xs q => ge_upd hG a _ q) (rd_upd hG)
end
end DL

/-! DL4: targets, what is walked, comprehensions, statements, loops. -/
namespace DL
open PySem PySem.Spec L2

mutual
def D.beq : D → D → Bool
  | .non, .non => true
  | .bl a, .bl b => a == b
  | .int a, .int b => a == b
  | .str a, .str b => a == b
  | .tup a, .tup b => D.beqs a b
  | .lst a, .lst b => D.beqs a b
  | .frz a, .frz b => D.beqs a b
  | .dct a, .dct b => D.beqk a b
  | .loc a, .loc b => a == b
  | .xc a c, .xc b d => a == b && c == d
  | _, _ => false
def D.beqs : List D → List D → Bool
  | [], [] => true
  | a :: as, b :: bs => D.beq a b && D.beqs as bs
  | _, _ => false
def D.beqk : List (Key × D) → List (Key × D) → Bool
  | [], [] => true
  | (k, a) :: as, (l, b) :: bs => decide (k = l) && D.beq a b && D.beqk as bs
  | _, _ => false
end
mutual
theorem D.beq_refl : ∀ d : D, D.beq d d = true
  | .non => by simp [D.beq]
  | .bl a => by simp [D.beq]
  | .int a => by simp [D.beq]
  | .str a => by simp [D.beq]
  | .tup a => by simp only [D.beq]; exact D.beqs_refl a
  | .lst a => by simp only [D.beq]; exact D.beqs_refl a
  | .frz a => by simp only [D.beq]; exact D.beqs_refl a
  | .dct a => by simp only [D.beq]; exact D.beqk_refl a
  | .loc a => by simp [D.beq]
  | .xc a c => by simp [D.beq]
theorem D.beqs_refl : ∀ d : List D, D.beqs d d = true
  | [] => by simp [D.beqs]
  | a :: as => by simp only [D.beqs, Bool.and_eq_true]; exact ⟨D.beq_refl a, D.beqs_refl as⟩
theorem D.beqk_refl : ∀ d : List (Key × D), D.beqk d d = true
  | [] => by simp [D.beqk]
  | (k, a) :: as => by simp only [D.beqk, Bool.and_eq_true]; exact ⟨⟨by simp, D.beq_refl a⟩, D.beqk_refl as⟩
end
mutual
theorem D.beq_eq : ∀ {a b : D}, D.beq a b = true → a = b
  | .non, b, h => by cases b <;> simp [D.beq] at h; rfl
  | .bl a, b, h => by cases b <;> simp [D.beq] at h; rw [h]
  | .int a, b, h => by cases b <;> simp [D.beq] at h; rw [h]
  | .str a, b, h => by cases b <;> simp [D.beq] at h; rw [h]
  | .tup a, b, h => by cases b <;> simp only [D.beq, Bool.false_eq_true] at h; rw [D.beqs_eq h]
  | .lst a, b, h => by cases b <;> simp only [D.beq, Bool.false_eq_true] at h; rw [D.beqs_eq h]
  | .frz a, b, h => by cases b <;> simp only [D.beq, Bool.false_eq_true] at h; rw [D.beqs_eq h]
  | .dct a, b, h => by cases b <;> simp only [D.beq, Bool.false_eq_true] at h; rw [D.beqk_eq h]
  | .loc a, b, h => by cases b <;> simp [D.beq] at h; rw [h]
  | .xc a c, b, h => by cases b <;> simp [D.beq] at h; rw [h.1, h.2]
theorem D.beqs_eq : ∀ {a b : List D}, D.beqs a b = true → a = b
  | [], b, h => by cases b <;> simp [D.beqs] at h; rfl
  | a :: as, b, h => by
    cases b with
    | nil => simp [D.beqs] at h
    | cons b bs =>
      simp only [D.beqs, Bool.and_eq_true] at h
      rw [D.beq_eq h.1, D.beqs_eq h.2]
theorem D.beqk_eq : ∀ {a b : List (Key × D)}, D.beqk a b = true → a = b
  | [], b, h => by cases b <;> simp [D.beqk] at h; rfl
  | (k, a) :: as, b, h => by
    cases b with
    | nil => simp [D.beqk] at h
    | cons b bs =>
      obtain ⟨l, b⟩ := b
      simp only [D.beqk, Bool.and_eq_true, decide_eq_true_eq] at h
      rw [h.1.1, D.beq_eq h.1.2, D.beqk_eq h.2]
end

section
variable {X : Cx} {T : List (Addr × Str)} {W : WX} {a b c e tg : Expr} {f f1 f2 f3 : Ex} {pos : Pos}

/-! ### targets -/
abbrev Gx := D → DEnv → Option DEnv
abbrev Gxs := List D → DEnv → Option DEnv
/-- but the slots is all stay -/
def But (is : List Nat) (σ σ' : St) : Prop := σ'.length = σ.length ∧ ∀ j : Nat, j ∉ is → σ'[j]? = σ[j]?
theorem But.refl {is : List Nat} {σ : St} : But is σ σ := ⟨rfl, fun _ _ => rfl⟩
theorem But.trans {is js : List Nat} {σ σ1 σ2 : St} (a : But is σ σ1) (b : But js σ1 σ2) : But (is ++ js) σ σ2 := ⟨b.1.trans a.1, fun j h => by
  rw [List.mem_append, not_or] at h
  exact (b.2 j h.2).trans (a.2 j h.1)⟩
def tGd (K : PySem.W.Frag) (g : Gx) (is : List Nat) : TG := fun v σ H Q => ∃ d ρ m G, Er K m G σ ρ ∧ (∀ a o, G a = some o → H a = some o) ∧ Rp K m G v d ∧ ∃ ρ', g d ρ = some ρ' ∧ ∀ σ', Er K m G σ' ρ' → But is σ σ' → Q σ' H
def tGds (K : PySem.W.Frag) (g : Gxs) (is : List Nat) : TGs := fun vs σ H Q => ∃ ds ρ m G, Er K m G σ ρ ∧ (∀ a o, G a = some o → H a = some o) ∧ RpL K m G vs ds ∧ ∃ ρ', g ds ρ = some ρ' ∧ ∀ σ', Er K m G σ' ρ' → But is σ σ' → Q σ' H
structure DG (X : Cx) (e : Expr) (g : Gx) (is : List Nat) : Prop where
  pg : PG X e (tGd X.K g is)
structure DGs (X : Cx) (es : List Expr) (g : Gxs) (is : List Nat) : Prop where
  pg : PGs X es (tGds X.K g is)
theorem PG.imp {X : Cx} {e : Expr} {t t' : TG} (h : PG X e t) (i : ∀ v σ H Q, t' v σ H Q → t v σ H Q) : PG X e t' := ⟨fun pins s σ H v u Q I r q => h.run pins s σ H v u Q I r (i v σ H Q q)⟩
theorem PGs.imp {X : Cx} {e : List Expr} {t t' : TGs} (h : PGs X e t) (i : ∀ v σ H Q, t' v σ H Q → t v σ H Q) : PGs X e t' := ⟨fun pins s σ H v u Q I r q => h.run pins s σ H v u Q I r (i v σ H Q q)⟩
def gN (i : Nat) : Gx := fun d ρ => some (ρ.set i (some d))
theorem er_set {K : PySem.W.Frag} {m : List Addr} {G : Hp} {σ : St} {ρ : DEnv} {i : Nat} {v : V} {d : D} (e : Er K m G σ ρ) (r : Rp K m G v d) : Er K m G (σ.set i (some v)) (ρ.set i (some d)) := by
  refine ⟨by simp [e.1], fun j d' h => ?_⟩
  by_cases hj : j = i
  · subst hj
    have hl : j < (ρ.set j (some d)).length := (List.getElem?_eq_some_iff.mp h).1
    rw [List.length_set] at hl
    rw [List.getElem?_set_self hl] at h
    cases h
    exact ⟨v, List.getElem?_set_self (by rw [e.1]; exact hl), r⟩
  · rw [List.getElem?_set_ne (Ne.symm hj)] at h ⊢
    exact e.2 j d' h
theorem dg_name (i : Nat) {x : Str} (hN : X.N.Nodup) (hi : X.N[i]? = some x := by rfl) (hx : Loc X.env.scope x := by first | exact Or.inl rfl | exact Or.inr rfl) (hf : X.fn x = true ∨ X.env.scope.names.lookup x = some .local := by first | exact .inl rfl | exact .inr rfl) : DG X (.Name x pos) (gN i) [i] := by
  refine ⟨PG.imp (pg_name hN hi hx hf) fun v σ H Q ⟨d, ρ, m, G, er, fits, rp, ρ', e, q⟩ => ?_⟩
  cases e
  exact q _ (er_set er rp) ⟨by simp, fun j hj => List.getElem?_set_ne (by simp at hj; exact Ne.symm hj)⟩
def gsN : Gxs := fun ds ρ => match ds with
  | [] => some ρ
  | _ => none
def gsC (g : Gx) (gs : Gxs) : Gxs := fun ds ρ => match ds with
  | d :: r => (g d ρ).bind (gs r)
  | [] => none
theorem dgs_nil : DGs X [] gsN [] := by
  refine ⟨PGs.imp pgs_nil fun v σ H Q ⟨d, ρ, m, G, er, fits, rp, ρ', e, q⟩ => ?_⟩
  cases d with
  | nil => cases rp; cases e; exact ⟨rfl, q _ er .refl⟩
  | cons _ _ => cases e
theorem dgs_cons {es : List Expr} {g : Gx} {gs : Gxs} {is js : List Nat} (h1 : DG X e g is) (h2 : DGs X es gs js) (hs : (assignEach (e :: es) X.env).map (·.2) = assign e X.env :: (assignEach es X.env).map (·.2) := by rfl) : DGs X (e :: es) (gsC g gs) (is ++ js) := by
  refine ⟨PGs.imp (pgs_cons h1.pg h2.pg hs) fun v σ H Q ⟨ds, ρ, m, G, er, fits, rp, ρ', e, q⟩ => ?_⟩
  cases ds with
  | nil => cases e
  | cons d ds =>
    cases rp with
    | cons r1 r2 =>
      unfold gsC at e
      cases e1 : g d ρ with
      | none => dsimp only at e; rw [e1] at e; cases e
      | some ρ1 =>
        dsimp only at e; rw [e1] at e
        exact ⟨_, _, rfl, d, ρ, m, G, er, fits, r1, ρ1, e1, fun σ' er' b1 => ⟨ds, ρ1, m, G, er', fits, r2, ρ', e, fun σ2 er2 b2 => q σ2 er2 (b1.trans b2)⟩⟩
def gT (n : Nat) (gs : Gxs) : Gx := fun d ρ => match d with
  | .tup ds => if ds.length = n then gs ds ρ else none
  | _ => none
theorem dg_tup {es : List Expr} {k n : Nat} {gs : Gxs} {is : List Nat} (hc : X.calm = true) (h : DGs X es gs is) (hn : (assignEach es X.env).length = n := by rfl) (hst : (assignEach es X.env).findIdx? (·.1) = none := by rfl) : DG X (.Tuple es k pos) (gT n gs) is := by
  refine ⟨PG.imp (pg_tup hc h.pg hn hst) fun v σ H Q ⟨d, ρ, m, G, er, fits, rp, ρ', e, q⟩ => ?_⟩
  cases d with
  | tup ds =>
    unfold gT at e
    dsimp only at e
    split at e
    case isFalse => cases e
    case isTrue hl =>
      cases rp with
      | tup h1 h2 => exact ⟨_, _, rfl, sqT_up fits h1, by rw [h2.length]; exact hl, ds, ρ, m, G, er, fits, h2, ρ', e, q⟩
  | _ => cases e

/-! ### what is walked -/
def ckB (ck : Option (Nat × List D)) (S : Store) : Bool := match ck with
  | none => true
  | some (n, ds) => match S[n]? with
    | some (.lst es) => D.beqs es ds
    | _ => false
theorem ckB_some {n : Nat} {ds : List D} {S : Store} (h : ckB (some (n, ds)) S = true) : S[n]? = some (.lst ds) := by
  unfold ckB at h
  dsimp only at h
  split at h
  · rename_i es e; rw [e, D.beqs_eq h]
  · cases h
structure Later (m : List Addr) (G : Hp) (m' : List Addr) (G' : Hp) : Prop where
  pre : ∀ (n : Nat) (a : Addr), m[n]? = some a → m'[n]? = some a
  ge : ∀ a o, G a = some o → G' a = some o
theorem Later.refl {m : List Addr} {G : Hp} : Later m G m G := ⟨fun _ _ h => h, fun _ _ h => h⟩
theorem Later.stp {m m1 m2 : List Addr} {G G1 G2 H1 H2 : Hp} (a : Later m G m1 G1) (b : Stp m1 G1 H1 m2 G2 H2) : Later m G m2 G2 := ⟨fun n x h => b.pre n x (a.pre n x h), fun x o h => b.ge x o (a.ge x o h)⟩
theorem Later.rd {m m1 : List Addr} {G G1 : Hp} (a : Later m G m1 G1) : ∀ x u, Rd G x u → Rd G1 x u := fun x u h => by
  rcases h with h | ⟨o, h⟩
  · exact .inl (a.ge _ _ h)
  · exact .inr ⟨o, a.ge _ _ h⟩
theorem Later.rp {K : PySem.W.Frag} {m m1 : List Addr} {G G1 : Hp} (a : Later m G m1 G1) {v : V} {d : D} (r : Rp K m G v d) : Rp K m1 G1 v d := r.mono' a.pre (fun x xs q => a.ge x _ q) a.rd
theorem Later.rpL {K : PySem.W.Frag} {m m1 : List Addr} {G G1 : Hp} (a : Later m G m1 G1) {v : List V} {d : List D} (r : RpL K m G v d) : RpL K m1 G1 v d := r.mono' a.pre (fun x xs q => a.ge x _ q) a.rd
/-- an iterator whose items are the data ds, while ck holds -/
structure Yields (K : PySem.W.Frag) (T : List (Addr × Str)) (J : It) (m0 : List Addr) (G0 : Hp) (ds : List D) (ck : Option (Nat × List D)) : Prop where
  go : ∀ (i : Nat) (m : List Addr) (G : Hp) (S : Store) (H : Hp), Later m0 G0 m G → Sr K T m G S H → ckB ck S = true → i < ds.length → J.go i H
  stop : ∀ (m : List Addr) (G : Hp) (S : Store) (H : Hp), Later m0 G0 m G → Sr K T m G S H → ckB ck S = true → J.stop ds.length H
  yld : ∀ (i : Nat) (d : D) (m : List Addr) (G : Hp) (S : Store) (H : Hp) (x : V) (H' : Hp), Later m0 G0 m G → Sr K T m G S H → ckB ck S = true → ds[i]? = some d → J.yld i H x H' → ∃ G', Stp m G H m G' H' ∧ Sr K T m G' S H' ∧ Rp K m G' x d
abbrev Ix := DEnv → Store → Res ((List D × Option (Nat × List D)) × Store)
def tId (K : PySem.W.Frag) (T : List (Addr × Str)) (W : WX) (it : Ix) : TI := fun σ H R => ∃ ρ m G S, Here K T σ ρ m G S H ∧
  Wants (it ρ S) (fun r => ∀ m' G' H' J, Stp m G H m' G' H' → Sr K T m' G' r.2 H' → ckB r.1.2 r.2 = true → Yields K T J m' G' r.1.1 r.1.2 → R J H') (PostX K T W σ m G H)
structure DI (X : Cx) (T : List (Addr × Str)) (W : WX) (tg iter : Expr) (it : Ix) : Prop where
  pi : PI X tg iter (tId X.K T W it)
theorem PI.imp {X : Cx} {tg e : Expr} {t t' : TI} (h : PI X tg e t) (i : ∀ σ H Q, t' σ H Q → t σ H Q) : PI X tg e t' := ⟨fun pins s σ H Q I q => h.run pins s σ H Q I (i σ H Q q)⟩
theorem PI.or {X : Cx} {tg e : Expr} {t t' : TI} (h : PI X tg e t) (h' : PI X tg e t') : PI X tg e (fun σ H Q => t σ H Q ∨ t' σ H Q) := ⟨fun pins s σ H Q I q => q.elim (h.run pins s σ H Q I) (h'.run pins s σ H Q I)⟩
/-- the items of a value -/
def itemsOf (S : Store) : D → Option (List D × Option (Nat × List D))
  | .lst ds => some (ds, none)
  | .frz ds => some (ds, none)
  | .tup ds => some (ds, none)
  | .str z => some (z.cps.toList.map (fun c => .str ⟨#[c]⟩), none)
  | .loc n => (cellL S[n]?).map fun ds => (ds, some (n, ds))
  | .dct _ => none
  | _ => none
def ixV (f : Ex) : Ix := fun ρ S => (f ρ S).bind fun r => match itemsOf r.2 r.1 with
  | some p => .ok (p, r.2)
  | none => .stuck
theorem yields_lst {K : PySem.W.Frag} {m0 : List Addr} {G0 : Hp} {a : Addr} {xs : List V} {ds : List D} (h : SqL K G0 a xs) (r : RpL K m0 G0 xs ds) : Yields K T (Itl K a) m0 G0 ds none where
  go := fun i m G S H l sr _ hi => by
    have hx : i < xs.length := by rw [r.length]; exact hi
    exact ⟨xs, xs[i], sqL_up sr.fits (sqL_mono l.rd h), by simp [hx]⟩
  stop := fun m G S H l sr _ => ⟨xs, sqL_up sr.fits (sqL_mono l.rd h), by rw [r.length]; exact Nat.le_refl _⟩
  yld := fun i d m G S H x H' l sr _ e y => by
    obtain ⟨rfl, q⟩ := y
    obtain ⟨v, e1, r1⟩ := r.get e
    have := q xs (sqL_up sr.fits (sqL_mono l.rd h))
    rw [e1] at this; cases this
    exact ⟨G, .refl, sr, l.rp r1⟩
theorem yields_tup {K : PySem.W.Frag} {m0 : List Addr} {G0 : Hp} {a : Addr} {xs : List V} {ds : List D} (h : SqT K G0 a xs) (r : RpL K m0 G0 xs ds) : Yields K T (Itt K a) m0 G0 ds none where
  go := fun i m G S H l sr _ hi => by
    have hx : i < xs.length := by rw [r.length]; exact hi
    exact ⟨xs, xs[i], sqT_up sr.fits (sqT_mono l.rd h), by simp [hx]⟩
  stop := fun m G S H l sr _ => ⟨xs, sqT_up sr.fits (sqT_mono l.rd h), by rw [r.length]; exact Nat.le_refl _⟩
  yld := fun i d m G S H x H' l sr _ e y => by
    obtain ⟨rfl, q⟩ := y
    obtain ⟨v, e1, r1⟩ := r.get e
    have := q xs (sqT_up sr.fits (sqT_mono l.rd h))
    rw [e1] at this; cases this
    exact ⟨G, .refl, sr, l.rp r1⟩
theorem yields_loc {K : PySem.W.Frag} {m0 : List Addr} {G0 : Hp} {a : Addr} {n : Nat} {ds : List D} (h : m0[n]? = some a) : Yields K T (Itl K a) m0 G0 ds (some (n, ds)) where
  go := fun i m G S H l sr ck hi => by
    obtain ⟨xs, q1, q2⟩ := sr.cell n _ a (ckB_some ck) (l.pre n a h)
    have hx : i < xs.length := by rw [q2.length]; exact hi
    exact ⟨xs, xs[i], .of q1, by simp [hx]⟩
  stop := fun m G S H l sr ck => by
    obtain ⟨xs, q1, q2⟩ := sr.cell n _ a (ckB_some ck) (l.pre n a h)
    exact ⟨xs, .of q1, by rw [q2.length]; exact Nat.le_refl _⟩
  yld := fun i d m G S H x H' l sr ck e y => by
    obtain ⟨rfl, q⟩ := y
    obtain ⟨xs, q1, q2⟩ := sr.cell n _ a (ckB_some ck) (l.pre n a h)
    obtain ⟨v, e1, r1⟩ := q2.get e
    have := q xs (.of q1)
    rw [e1] at this; cases this
    exact ⟨G, .refl, sr, r1⟩
theorem yields_str {K : PySem.W.Frag} {m0 : List Addr} {G0 : Hp} {z : Str} : Yields K T (Its z) m0 G0 (z.cps.toList.map fun c => .str ⟨#[c]⟩) none where
  go := fun i m G S H l sr _ hi => by
    show i < z.cps.size
    simpa using hi
  stop := fun m G S H l sr _ => by
    show z.cps.size ≤ _
    simp
  yld := fun i d m G S H x H' l sr _ e y => by
    obtain ⟨rfl, c, e1, rfl⟩ := y
    rw [List.getElem?_map] at e
    have e2 : z.cps.toList[i]? = some c := by rw [Array.getElem?_toList]; exact e1
    rw [e2] at e
    cases e
    exact ⟨G, .refl, sr, .str _⟩
theorem di_val (ha : DE X T W e f) : DI X T W tg e (ixV f) := by
  refine ⟨PI.imp (PI.or (pi_list ha.pe) (PI.or (pi_tup ha.pe) (pi_str ha.pe))) fun σ H R ⟨ρ, m, G, S, hh, h⟩ => ?_⟩
  unfold ixV at h
  cases q : f ρ S with
  | stuck => rw [q] at h; exact h.elim
  | exc c S' =>
    rw [q] at h
    refine .inl ⟨ρ, m, G, S, hh, ?_⟩
    rw [q]; exact h
  | ok r =>
    obtain ⟨x, S1⟩ := r
    rw [q] at h
    simp only [Res.bind_ok] at h
    cases x with
    | lst ds =>
      refine .inl ⟨ρ, m, G, S, hh, ?_⟩
      rw [q]
      intro v m1 G1 H1 st sr rx
      cases rx with
      | lst h1 h2 => exact ⟨_, rfl, ⟨_, .of (sr.fits _ _ h1)⟩, h m1 G1 H1 _ st sr rfl (yields_lst (.of h1) h2)⟩
    | frz ds =>
      refine .inl ⟨ρ, m, G, S, hh, ?_⟩
      rw [q]
      intro v m1 G1 H1 st sr rx
      cases rx with
      | frz h1 h2 => exact ⟨_, rfl, ⟨_, sqL_up sr.fits h1⟩, h m1 G1 H1 _ st sr rfl (yields_lst h1 h2)⟩
    | tup ds =>
      refine .inr (.inl ⟨ρ, m, G, S, hh, ?_⟩)
      rw [q]
      intro v m1 G1 H1 st sr rx
      cases rx with
      | tup h1 h2 => exact ⟨_, rfl, ⟨_, sqT_up sr.fits h1⟩, h m1 G1 H1 _ st sr rfl (yields_tup h1 h2)⟩
    | str z =>
      refine .inr (.inr ⟨ρ, m, G, S, hh, ?_⟩)
      rw [q]
      intro v m1 G1 H1 st sr rx
      cases rx
      exact ⟨z, rfl, h m1 G1 H1 _ st sr rfl yields_str⟩
    | loc n =>
      refine .inl ⟨ρ, m, G, S, hh, ?_⟩
      rw [q]
      intro v m1 G1 H1 st sr rx
      have e0 : itemsOf S1 (.loc n) = (cellL S1[n]?).map fun ds => (ds, some (n, ds)) := rfl
      rw [e0] at h
      cases e1 : cellL S1[n]? with
      | none => rw [e1] at h; exact h.elim
      | some ds =>
        rw [e1] at h
        cases rx with
        | loc h1 =>
          have e2 := cellL_some e1
          obtain ⟨xs, q1, q2⟩ := sr.cell n _ _ e2 h1
          refine ⟨_, rfl, ⟨xs, .of q1⟩, h m1 G1 H1 _ st sr ?_ (yields_loc h1)⟩
          show (match S1[n]? with | some (.lst es) => D.beqs es ds | _ => false) = true
          rw [e2]
          exact D.beqs_refl ds
    | _ => exact h.elim
def rangeD (lo : Int) (n : Nat) : List D := (List.range n).map fun (i : Nat) => .int (lo + i)
theorem yields_range {K : PySem.W.Frag} {m0 : List Addr} {G0 : Hp} {lo : Int} {n : Nat} : Yields K T (Itr lo n) m0 G0 (rangeD lo n) none where
  go := fun i m G S H l sr _ hi => by
    show i < n
    simpa [rangeD] using hi
  stop := fun m G S H l sr _ => by
    show n ≤ _
    simp [rangeD]
  yld := fun i d m G S H x H' l sr _ e y => by
    obtain ⟨rfl, rfl⟩ := y
    unfold rangeD at e
    rw [List.getElem?_map] at e
    have hi : i < n := by
      by_cases hi : i < n
      · exact hi
      · rw [List.getElem?_eq_none (by simp; omega)] at e; cases e
    rw [List.getElem?_range hi] at e
    cases e
    exact ⟨G, .refl, sr, .int _⟩
def ixR1 (g : Ax) : Ix := fun ρ S => (g ρ S).bind fun r => match r.1 with
  | [.int j] => if -(2 ^ 62) ≤ j ∧ j < 2 ^ 62 then .ok ((rangeD 0 j.toNat, none), r.2) else .stuck
  | _ => .stuck
def ixR2 (g : Ax) : Ix := fun ρ S => (g ρ S).bind fun r => match r.1 with
  | [.int i, .int j] => if -(2 ^ 62) ≤ i ∧ i < 2 ^ 62 ∧ -(2 ^ 62) ≤ j ∧ j < 2 ^ 62 then .ok ((rangeD i (j - i).toNat, none), r.2) else .stuck
  | _ => .stuck
theorem RpL.one {K : PySem.W.Frag} {m : List Addr} {G : Hp} {vs : List V} {d : D} (r : RpL K m G vs [d]) : ∃ v, vs = [v] ∧ Rp K m G v d := by
  cases r with
  | cons h1 h2 => cases h2; exact ⟨_, rfl, h1⟩
theorem RpL.two {K : PySem.W.Frag} {m : List Addr} {G : Hp} {vs : List V} {d e : D} (r : RpL K m G vs [d, e]) : ∃ v u, vs = [v, u] ∧ Rp K m G v d ∧ Rp K m G u e := by
  cases r with
  | cons h1 h2 =>
    obtain ⟨u, rfl, h3⟩ := h2.one
    exact ⟨_, u, rfl, h1, h3⟩
theorem di_range1 {p : Pos} {g : Ax} (hg : Gl X "range") (hm : X.mg "range" = none) (ha : DA X T W [a] g) (hs : starEach [a] X.env = [(false, eval a X.env)] := by rfl) : DI X T W tg (.Call (.Name "range" p) [a] [] pos) (ixR1 g) := by
  refine ⟨PI.imp (pi_range1 hg hm ha.pa hs) fun σ H R ⟨ρ, m, G, S, hh, h⟩ => ?_⟩
  refine ⟨ρ, m, G, S, hh, (Wants.bind h).imp (fun r hr vs m1 G1 H1 st sr rs => ?_) fun _ _ q => q⟩
  obtain ⟨ds, S1⟩ := r
  dsimp only at hr sr rs
  split at hr
  · rename_i j
    split at hr
    case isFalse => exact hr.elim
    case isTrue hj =>
      obtain ⟨v, rfl, r1⟩ := rs.one
      cases r1
      exact ⟨j, rfl, hj.1, hj.2, hr m1 G1 H1 _ st sr rfl yields_range⟩
  · exact hr.elim
theorem di_range2 {p : Pos} {g : Ax} (hg : Gl X "range") (hm : X.mg "range" = none) (ha : DA X T W [a, b] g) (hs : starEach [a, b] X.env = [(false, eval a X.env), (false, eval b X.env)] := by rfl) (hs2 : starEach [b] X.env = [(false, eval b X.env)] := by rfl) : DI X T W tg (.Call (.Name "range" p) [a, b] [] pos) (ixR2 g) := by
  refine ⟨PI.imp (pi_range2 hg hm ha.pa hs hs2) fun σ H R ⟨ρ, m, G, S, hh, h⟩ => ?_⟩
  refine ⟨ρ, m, G, S, hh, (Wants.bind h).imp (fun r hr vs m1 G1 H1 st sr rs => ?_) fun _ _ q => q⟩
  obtain ⟨ds, S1⟩ := r
  dsimp only at hr sr rs
  split at hr
  · rename_i i j
    split at hr
    case isFalse => exact hr.elim
    case isTrue hj =>
      obtain ⟨v, u, rfl, r1, r2⟩ := rs.two
      cases r1
      cases r2
      exact ⟨i, j, rfl, hj, hr m1 G1 H1 _ st sr rfl yields_range⟩
  · exact hr.elim

/-- pairs made on the way -/
theorem yields_pairs {K : PySem.W.Frag} {m0 : List Addr} {G0 : Hp} {J : It} {ds es : List D}
    (go : ∀ (i : Nat) (m : List Addr) (G : Hp) (S : Store) (H : Hp), Later m0 G0 m G → Sr K T m G S H → i < (ds.zip es).length → J.go i H)
    (stop : ∀ (m : List Addr) (G : Hp) (S : Store) (H : Hp), Later m0 G0 m G → Sr K T m G S H → J.stop (ds.zip es).length H)
    (yld : ∀ (i : Nat) (d e : D) (m : List Addr) (G : Hp) (S : Store) (H : Hp) (v : V) (H' : Hp), Later m0 G0 m G → Sr K T m G S H → ds[i]? = some d → es[i]? = some e → J.yld i H v H' → ∃ p x y, v = .ref p ∧ H p = none ∧ H' = upd H p (.tup [x, y]) ∧ Rp K m G x d ∧ Rp K m G y e) :
    Yields K T J m0 G0 ((ds.zip es).map fun p => .tup [p.1, p.2]) none where
  go := fun i m G S H l sr _ hi => go i m G S H l sr (by simpa using hi)
  stop := fun m G S H l sr _ => by
    rw [List.length_map]
    exact stop m G S H l sr
  yld := fun i d m G S H x H' l sr _ e y => by
    rw [List.getElem?_map] at e
    cases e1 : (ds.zip es)[i]? with
    | none => rw [e1] at e; cases e
    | some p =>
      rw [e1] at e; cases e
      obtain ⟨d, e⟩ := p
      have hz := List.getElem?_zip_eq_some.mp e1
      obtain ⟨p, x', y', rfl, np, rfl, r1, r2⟩ := yld i d e m G S H x H' l sr hz.1 hz.2 y
      exact ⟨_, Stp.alloc sr np, sr.alloc np (fun _ z => by cases z), .tup (.of upd_same) (.cons (r1.mono (Stp.alloc (o := .tup [x', y']) sr np)) (.cons (r2.mono (Stp.alloc (o := .tup [x', y']) sr np)) .nil))⟩
/-- a list whose place never changes, for zip and enumerate -/
def lstF (S : Store) : D → Option (List D)
  | .lst ds => some ds
  | .frz ds => some ds
  | _ => none
theorem lstF_at {K : PySem.W.Frag} {m0 m : List Addr} {G0 G H : Hp} {S0 S : Store} {v : V} {x : D} {ds : List D} (r : Rp K m0 G0 v x) (h : lstF S0 x = some ds) : ∃ a xs, v = .ref a ∧ RpL K m0 G0 xs ds ∧ ∀ (m : List Addr) (G : Hp) (S : Store) (H : Hp), Later m0 G0 m G → Sr K T m G S H → SqL K H a xs := by
  cases r with
  | lst h1 h2 => cases h; exact ⟨_, _, rfl, h2, fun m G S H l sr => .of (sr.fits _ _ (l.ge _ _ h1))⟩
  | frz h1 h2 => cases h; exact ⟨_, _, rfl, h2, fun m G S H l sr => sqL_up sr.fits (sqL_mono l.rd h1)⟩
  | _ => cases h
def ixZ (g : Ax) : Ix := fun ρ S => (g ρ S).bind fun r => match r.1 with
  | [x, y] => match lstF r.2 x, lstF r.2 y with
    | some ds, some es => .ok (((ds.zip es).map (fun p => .tup [p.1, p.2]), none), r.2)
    | _, _ => .stuck
  | _ => .stuck
theorem di_zip {p tpos : Pos} {elts : List Expr} {kk : Nat} {g : Ax} (hg : Gl X "zip") (hm : X.mg "zip" = none) (ha : DA X T W [a, b] g) (hs : starEach [a, b] X.env = (false, eval a X.env) :: starEach [b] X.env := by rfl) (hpl : (backTo pos (starEach [b] X.env)).any (·.1) = false := by rfl) :
    DI X T W (.Tuple elts kk tpos) (.Call (.Name "zip" p) [a, b] [] pos) (ixZ g) := by
  refine ⟨PI.imp (pi_zip hg hm ha.pa hs hpl) fun σ H R ⟨ρ, m, G, S, hh, h⟩ => ?_⟩
  refine ⟨ρ, m, G, S, hh, (Wants.bind h).imp (fun r hr vs m1 G1 H1 st sr rs => ?_) fun _ _ q => q⟩
  obtain ⟨ds, S1⟩ := r
  dsimp only at hr sr rs
  split at hr
  · rename_i x y
    obtain ⟨v, u, rfl, r1, r2⟩ := rs.two
    split at hr
    · rename_i xs ys e1 e2
      obtain ⟨a1, us, rfl, q1, k1⟩ := lstF_at (T := T) (m := m1) (G := G1) (H := H1) (S := S1) r1 e1
      obtain ⟨a2, ws, rfl, q2, k2⟩ := lstF_at (T := T) (m := m1) (G := G1) (H := H1) (S := S1) r2 e2
      refine ⟨a1, a2, us, ws, rfl, k1 _ _ _ _ .refl sr, k2 _ _ _ _ .refl sr, hr m1 G1 H1 _ st sr rfl (yields_pairs ?_ ?_ ?_)⟩
      · intro i m G S H l sr hi
        rw [List.length_zip] at hi
        have h1 : i < us.length := by rw [q1.length]; omega
        have h2 : i < ws.length := by rw [q2.length]; omega
        exact ⟨us, ws, us[i], ws[i], k1 _ _ _ _ l sr, k2 _ _ _ _ l sr, by simp [h1], by simp [h2]⟩
      · intro m G S H l sr
        refine ⟨us, ws, k1 _ _ _ _ l sr, k2 _ _ _ _ l sr, ?_⟩
        rw [List.length_zip, q1.length, q2.length]
        omega
      · intro i d e m G S H v H' l sr ed ee y
        obtain ⟨p, x, z, e1, e2, e3, f1, f2⟩ := y
        have g1 := f1 us (k1 _ _ _ _ l sr)
        have g2 := f2 ws (k2 _ _ _ _ l sr)
        obtain ⟨v1, w1, w2⟩ := q1.get ed
        obtain ⟨v2, w3, w4⟩ := q2.get ee
        rw [g1] at w1; cases w1
        rw [g2] at w3; cases w3
        exact ⟨p, x, z, e1, e2, e3, l.rp w2, l.rp w4⟩
    · exact hr.elim
  · exact hr.elim
def countD (n : Nat) : List D := (List.range n).map fun (i : Nat) => .int (i : Int)
theorem countD_get {n i : Nat} {d : D} (h : (countD n)[i]? = some d) : d = .int (i : Int) := by
  unfold countD at h
  rw [List.getElem?_map] at h
  by_cases hi : i < n
  · rw [List.getElem?_range hi] at h; cases h; rfl
  · rw [List.getElem?_eq_none (by simp; omega)] at h; cases h
def ixE (g : Ax) : Ix := fun ρ S => (g ρ S).bind fun r => match r.1 with
  | [x] => match lstF r.2 x with
    | some ds => .ok ((((countD ds.length).zip ds).map (fun p => .tup [p.1, p.2]), none), r.2)
    | none => .stuck
  | _ => .stuck
theorem di_enum {p tpos : Pos} {elts : List Expr} {kk : Nat} {g : Ax} (hg : Gl X "enumerate") (hm : X.mg "enumerate" = none) (ha : DA X T W [a] g) (hs : starEach [a] X.env = [(false, eval a X.env)] := by rfl) :
    DI X T W (.Tuple elts kk tpos) (.Call (.Name "enumerate" p) [a] [] pos) (ixE g) := by
  refine ⟨PI.imp (pi_enum hg hm ha.pa hs) fun σ H R ⟨ρ, m, G, S, hh, h⟩ => ?_⟩
  refine ⟨ρ, m, G, S, hh, (Wants.bind h).imp (fun r hr vs m1 G1 H1 st sr rs => ?_) fun _ _ q => q⟩
  obtain ⟨ds, S1⟩ := r
  dsimp only at hr sr rs
  split at hr
  · rename_i x
    obtain ⟨v, rfl, r1⟩ := rs.one
    split at hr
    · rename_i xs e1
      obtain ⟨a1, us, rfl, q1, k1⟩ := lstF_at (T := T) (m := m1) (G := G1) (H := H1) (S := S1) r1 e1
      have hcl : (countD xs.length).length = xs.length := by simp [countD]
      refine ⟨a1, us, rfl, k1 _ _ _ _ .refl sr, hr m1 G1 H1 _ st sr rfl (yields_pairs ?_ ?_ ?_)⟩
      · intro i m G S H l sr hi
        rw [List.length_zip, hcl] at hi
        have h1 : i < us.length := by rw [q1.length]; omega
        exact ⟨us, us[i], k1 _ _ _ _ l sr, by simp [h1]⟩
      · intro m G S H l sr
        refine ⟨us, k1 _ _ _ _ l sr, ?_⟩
        rw [List.length_zip, hcl, q1.length]
        omega
      · intro i d e m G S H v H' l sr ed ee y
        obtain ⟨p, x, e1, e2, e3, f1⟩ := y
        have g1 := f1 us (k1 _ _ _ _ l sr)
        obtain ⟨v1, w1, w2⟩ := q1.get ee
        rw [g1] at w1; cases w1
        rw [countD_get ed]
        exact ⟨p, .int (i : Nat), x, e1, e2, e3, .int _, l.rp w2⟩
    · exact hr.elim
  · exact hr.elim
end
end DL

/-! DL5: comprehensions, statements, loops. -/
namespace DL
open PySem PySem.Spec L2

section
variable {X : Cx} {T : List (Addr × Str)} {W : WX} {a b c e tg : Expr} {f f1 f2 f3 : Ex} {pos : Pos}

/-! ### comprehensions -/
abbrev WF : WX := fun _ _ _ _ => False
structure DTs (X : Cx) (T : List (Addr × Str)) (W : WX) (es : List Expr) (t : Tx) : Prop where
  pts : PTs X es (tT X.K T W t)
theorem PTs.imp {X : Cx} {e : List Expr} {t t' : TT} (h : PTs X e t) (i : ∀ σ H Q, t' σ H Q → t σ H Q) : PTs X e t' := ⟨fun pins s σ H Q I q => h.run pins s σ H Q I (i σ H Q q)⟩
def txY : Tx := fun _ S => .ok (true, S)
theorem dts_nil : DTs X T W [] txY := ⟨PTs.imp pts_nil fun σ H Q ⟨ρ, m, G, S, hh, h⟩ => h m G H .refl hh.2⟩
theorem dts_one {t : Tx} (h : DT X T W c t) : DTs X T W [c] t := ⟨pts_one h.pt⟩
def wipeD (ρ : DEnv) : List Nat → DEnv
  | [] => ρ
  | v :: vs => (wipeD ρ vs).set v none
theorem wipeD_length (ρ : DEnv) : ∀ vs : List Nat, (wipeD ρ vs).length = ρ.length
  | [] => rfl
  | v :: vs => by unfold wipeD; rw [List.length_set, wipeD_length ρ vs]
theorem er_wipe {K : PySem.W.Frag} {m : List Addr} {G : Hp} {σ : St} {ρ : DEnv} (er : Er K m G σ ρ) : ∀ vs : List Nat, Er K m G (wipe σ vs) (wipeD ρ vs)
  | [] => er
  | v :: vs => by
    have ih := er_wipe er vs
    refine ⟨by unfold wipe wipeD; simp [ih.1], fun i d h => ?_⟩
    unfold wipeD at h
    unfold wipe
    by_cases hi : v = i
    · subst hi
      have hl : v < ((wipeD ρ vs).set v none).length := (List.getElem?_eq_some_iff.mp h).1
      rw [List.length_set] at hl
      rw [List.getElem?_set_self hl] at h
      cases h
    · rw [List.getElem?_set_ne hi] at h ⊢
      exact ih.2 i d h
theorem wipe_get (σ : St) : ∀ (vs : List Nat) (i : Nat), (wipe σ vs)[i]? = if i ∈ vs ∧ i < σ.length then some none else σ[i]?
  | [], i => by simp [wipe]
  | v :: vs, i => by
    unfold wipe
    by_cases hi : v = i
    · subst hi
      by_cases hl : v < σ.length
      · rw [List.getElem?_set_self (by rw [wipe_length]; exact hl)]; simp [hl]
      · rw [List.getElem?_eq_none (by rw [List.length_set, wipe_length]; omega)]
        rw [if_neg (by simp [hl]), List.getElem?_eq_none (by omega)]
    · rw [List.getElem?_set_ne hi, wipe_get σ vs i]
      have : (i ∈ v :: vs) ↔ i ∈ vs := by simp [Ne.symm hi]
      simp [this]
theorem wipe_but {σ σ2 : St} {vs is : List Nat} (h : But is (wipe σ vs) σ2) (hi : ∀ j ∈ is, j ∈ vs) : wipe σ2 vs = wipe σ vs := by
  have hl : σ2.length = σ.length := by rw [h.1, wipe_length]
  apply List.ext_getElem?
  intro i
  rw [wipe_get, wipe_get, hl]
  by_cases hm : i ∈ vs
  · by_cases hlt : i < σ.length
    · simp [hm, hlt]
    · rw [if_neg (by simp [hlt]), if_neg (by simp [hlt]), List.getElem?_eq_none (by omega), List.getElem?_eq_none (by omega)]
  · rw [if_neg (by simp [hm]), if_neg (by simp [hm]), h.2 i (fun z => hm (hi i z)), wipe_get, if_neg (by simp [hm])]
def lcL (g : Gx) (t : Tx) (fe : Ex) (ck : Option (Nat × List D)) (ρ : DEnv) : List D → List D → Store → Res (List D × Store)
  | [], acc, S => .ok (acc, S)
  | d :: ds, acc, S => match g d ρ with
    | none => .stuck
    | some ρ1 => match t ρ1 S with
      | .ok (true, S1) => match fe ρ1 S1 with
        | .ok (y, S2) => if ckB ck S2 = true ∧ acc.length < sizeLine then lcL g t fe ck ρ ds (acc ++ [y]) S2 else .stuck
        | _ => .stuck
      | .ok (false, S1) => if ckB ck S1 = true then lcL g t fe ck ρ ds acc S1 else .stuck
      | _ => .stuck
def exLc (it : Ix) (g : Gx) (t : Tx) (fe : Ex) (vs : List Nat) : Ex := fun ρ S => (it ρ S).bind fun r => (lcL g t fe r.1.2 (wipeD ρ vs) r.1.1 [] r.2).bind fun q => .ok (.lst q.1, q.2)
section
variable {K : PySem.W.Frag} {m m1 : List Addr} {G G1 H H1 : Hp} {S S1 : Store} {σ : St} {ρ : DEnv}
/-- the loop of a comprehension whose iterator has come -/
theorem lc_run {J : It} {g : Gx} {t : Tx} {fe : Ex} {vs is : List Nat} {ds : List D} {ck : Option (Nat × List D)} {Q : VK} {P : Addr → Store → Prop} (hi : ∀ j ∈ is, j ∈ vs) (hh : Here K T σ ρ m1 G1 S1 H1) (hck : ckB ck S1 = true) (hy : Yields K T J m1 G1 ds ck)
    (h : Wants ((lcL g t fe ck (wipeD ρ vs) ds [] S1).bind fun q => .ok (D.lst q.1, q.2)) (PostE K T m1 G1 H1 Q) P) (A : Addr) (nA : H1 A = none) :
    ∃ W : Nat → Nat → Hp → Prop, (∃ m, W 0 m (upd H1 A (.lst []))) ∧ ∀ i m H, W i m H →
      (J.stop i H ∧ Q (.ref A) H) ∨ (J.go i H ∧ ∃ Nx : Hp → Prop, (∀ H', Nx H' → ∃ m', m' < m ∧ W (i + 1) m' H') ∧ ∀ x H', J.yld i H x H' → tGd K g is x (wipe σ vs) H' fun σ2 H2 => wipe σ2 vs = wipe σ vs ∧ tT K T WF t σ2 H2 fun b H3 =>
        if b = true then tE K T WF fe σ2 H3 fun y H4 => ∃ acc, H4 A = some (.lst acc) ∧ acc.length < sizeLine ∧ Nx (upd H4 A (.lst (acc ++ [y]))) else Nx H3) := by
  have nt : ∀ (xs : List V) ps, (HO.lst xs : HO) ≠ .tbl ps := fun xs _ z => by cases z
  let I : Nat → Hp → Prop := fun i H => i ≤ ds.length ∧ ∃ m G S acc us, Stp m1 G1 H1 m G H ∧ Sr K T m G S H ∧ ckB ck S = true ∧ H A = some (.lst us) ∧ A ∉ m ∧ G A = none ∧ RpL K m G us acc ∧
    Wants ((lcL g t fe ck (wipeD ρ vs) (ds.drop i) acc S).bind fun q => .ok (D.lst q.1, q.2)) (PostE K T m1 G1 H1 Q) P
  refine ⟨fun i k H => k = ds.length - i ∧ I i H, ⟨_, rfl, Nat.zero_le _, m1, G1, S1, [], [], Stp.hide nA, hh.2.hide nA (nt _), hck, upd_same, hh.2.notm nA, hh.2.notG nA, .nil, by simpa using h⟩, ?_⟩
  rintro i k H ⟨rfl, hle, m, G, S, acc, us, st, sr, hck, hA, hAm, hAG, rl, hw⟩
  have lt : Later m1 G1 m G := ⟨st.pre, st.ge⟩
  by_cases hlt : i < ds.length
  · refine .inr ⟨hy.go i m G S H lt sr hck hlt, I (i + 1), fun H' h' => ⟨_, by omega, rfl, h'⟩, fun x H' y => ?_⟩
    have hd : ds[i]? = some ds[i] := List.getElem?_eq_getElem hlt
    obtain ⟨G', st', sr', rp⟩ := hy.yld i ds[i] m G S H x H' lt sr hck hd y
    have hA' : H' A = some (.lst us) := st'.keep A _ hA (nt _) hAm
    have hAG' : G' A = none := by
      rcases st'.fresh A hAG with q | q
      · exact q
      · rw [hA] at q; cases q
    have st1 := st.trans st' hh.2.fits
    rw [List.drop_eq_getElem_cons hlt] at hw
    unfold lcL at hw
    cases e1 : g ds[i] (wipeD ρ vs) with
    | none => rw [e1] at hw; exact hw.elim
    | some ρ1 =>
      rw [e1] at hw
      dsimp only at hw
      have er' : Er K m G' (wipe σ vs) (wipeD ρ vs) := er_wipe ((hh.1.mono st).mono st') vs
      refine ⟨ds[i], wipeD ρ vs, m, G', er', sr'.fits, rp, ρ1, e1, fun σ2 er2 but => ⟨wipe_but but hi, ρ1, m, G', S, ⟨er2, sr'⟩, ?_⟩⟩
      cases e2 : t ρ1 S with
      | stuck => rw [e2] at hw; exact hw.elim
      | exc c S' => rw [e2] at hw; exact hw.elim
      | ok r =>
        obtain ⟨k, S2⟩ := r
        rw [e2] at hw
        intro m3 G3 H3 st3 sr3
        have hA3 : H3 A = some (.lst us) := st3.keep A _ hA' (nt _) hAm
        have hAm3 : A ∉ m3 := fun z => by
          rcases st3.mnew A z with q | q
          · exact hAm q
          · rw [hA'] at q; cases q
        have hAG3 : G3 A = none := by
          rcases st3.fresh A hAG' with q | q
          · exact q
          · rw [hA'] at q; cases q
        have st13 := st1.trans st3 hh.2.fits
        cases k with
        | true =>
          rw [if_pos rfl]
          dsimp only at hw
          refine ⟨ρ1, m3, G3, S2, ⟨er2.mono st3, sr3⟩, ?_⟩
          cases e3 : fe ρ1 S2 with
          | stuck => rw [e3] at hw; exact hw.elim
          | exc c S' => rw [e3] at hw; exact hw.elim
          | ok r =>
            obtain ⟨yv, S4⟩ := r
            rw [e3] at hw
            dsimp only at hw
            split at hw
            case isFalse => exact hw.elim
            case isTrue hc =>
              intro v m4 G4 H4 st4 sr4 r4
              have hA4 : H4 A = some (.lst us) := st4.keep A _ hA3 (nt _) hAm3
              have hAm4 : A ∉ m4 := fun z => by
                rcases st4.mnew A z with q | q
                · exact hAm3 q
                · rw [hA3] at q; cases q
              have hAG4 : G4 A = none := by
                rcases st4.fresh A hAG3 with q | q
                · exact q
                · rw [hA3] at q; cases q
              have st14 := st13.trans st4 hh.2.fits
              refine ⟨us, hA4, by rw [rl.length]; exact hc.2, hlt, m4, G4, S4, acc ++ [yv], us ++ [v], st14.chg nA, sr4.chg hA4 plain_lst hAm4 hAG4, hc.1, upd_same, hAm4, hAG4, ?_, hw⟩
              exact (((rl.mono st').mono st3).mono st4).append (.cons r4 .nil)
        | false =>
          rw [if_neg Bool.false_ne_true]
          dsimp only at hw
          split at hw
          case isFalse => exact hw.elim
          case isTrue hc =>
            exact ⟨hlt, m3, G3, S2, acc, us, st13, sr3, hc, hA3, hAm3, hAG3, (rl.mono st').mono st3, hw⟩
  · have e : i = ds.length := by omega
    subst e
    refine .inl ⟨hy.stop m G S H lt sr hck, ?_⟩
    rw [List.drop_length] at hw
    have hw : PostE K T m1 G1 H1 Q (.lst acc, S) := hw
    have hH : upd H A (.lst us) = H := by
      funext b
      by_cases hb : b = A
      · subst hb; rw [upd_same, hA]
      · rw [upd_ne hb]
    have := hw (.ref A) m (upd G A (.lst us)) (upd H A (.lst us)) (Stp.reveal hh.2 st nA) (sr.reveal hA plain_lst hAm hAG (nt _)) (.lst upd_same (rl.mono' (fun _ _ q => q) (fun a xs q => ge_upd hAG a _ q) (rd_upd hAG)))
    rw [hH] at this
    exact this
theorem lc_imp {it : Ix} {g : Gx} {t : Tx} {fe : Ex} {vs is : List Nat} (hi : ∀ j ∈ is, j ∈ vs) {Q : VK} (h : tE K T W (exLc it g t fe vs) σ H Q) : tLc (tId K T W it) (tGd K g is) (tT K T WF t) (tE K T WF fe) vs σ H Q := by
  obtain ⟨ρ, m, G, S, hh, h⟩ := h
  refine ⟨ρ, m, G, S, hh, (Wants.bind h).imp (fun r hr m' G' H' J st sr hck hy A nA => ?_) fun _ _ q => q⟩
  exact lc_run hi ⟨hh.1.mono st, sr⟩ hck hy (hr.nextE hh.2 st) A nA
end
theorem de_lc {elt iter : Expr} {ifs : List Expr} {scope : Scope} {own : List (Str × Nat)} {it : Ix} {g : Gx} {is : List Nat} {t : Tx} {fe : Ex} (hc : X.calm = true) (hN : X.N.Nodup) (hi : DI X T W tg iter it) (ok : BlkOk X.N X.env.scope scope own)
    (hg : ∀ (s : Shared) (H : Hp) (C : Addr) (cl : List (Str × Addr)) (fp : List Addr), DG (X.blk s H scope (compEnvC scope cl C X.env) fp) tg g is) (ht : ∀ (s : Shared) (H : Hp) (C : Addr) (cl : List (Str × Addr)) (fp : List Addr), DTs (X.blk s H scope (compEnvC scope cl C X.env) fp) T WF ifs t)
    (he : ∀ (s : Shared) (H : Hp) (C : Addr) (cl : List (Str × Addr)) (fp : List Addr), DE (X.blk s H scope (compEnvC scope cl C X.env) fp) T WF elt fe) (hv : ∀ j ∈ is, j ∈ own.map (·.2) := by decide) (hs : ∀ x, foldedSetIterable iter X.env x = pure x := by intro _; rfl) :
    DE X T W (.ListComp elt [⟨tg, iter, ifs, 0⟩] scope pos) (exLc it g t fe (own.map (·.2))) :=
  ⟨PE.imp (pe_lc (g := tGd X.K g is) (tt := tT X.K T WF t) (te := tE X.K T WF fe) hc hN hi.pi ok (fun s H C cl fp => (hg s H C cl fp).pg) (fun s H C cl fp => (ht s H C cl fp).pts) (fun s H C cl fp => (he s H C cl fp).pe) hs) fun σ H Q h => lc_imp hv h⟩

/-! ### statements -/
theorem dss_nil : DSs X T W [] (fun ρ S => .ok (.nx, ρ, S)) := ⟨PSs.imp pss_nil fun D σ H ⟨ρ, m, G, S, hh, h⟩ => h σ m G H .refl hh⟩
def sxSeq (s u : Sx) : Sx := fun ρ S => (s ρ S).bind fun r => match r.1 with
  | .nx => u r.2.1 r.2.2
  | _ => .ok r
theorem seq_imp {K : PySem.W.Frag} {s u : Sx} {D : Ends} {σ : St} {H : Hp} (h : tSt K T W (sxSeq s u) D σ H) : tSeq (tSt K T W s) (tSt K T W u) D σ H := by
  obtain ⟨ρ, m, G, S, hh, h⟩ := h
  refine ⟨ρ, m, G, S, hh, (Wants.bind h).imp (fun r hr => ?_) fun _ _ q => q⟩
  obtain ⟨fl, ρ1, S1⟩ := r
  cases fl with
  | nx =>
    intro σ' m' G' H' st hh'
    exact ⟨ρ1, m', G', S1, hh', hr.imp (fun _ q => q.next hh.2 st) fun _ _ q => q.next hh.2 st⟩
  | bk => exact hr
  | ct => exact hr
  | rt d => exact hr
theorem dss_cons {st : Stmt} {rest : List Stmt} {s u : Sx} (h1 : DS X T W st s) (h2 : DSs X T W rest u) : DSs X T W (st :: rest) (sxSeq s u) := ⟨PSs.imp (pss_cons h1.ps h2.ps) fun _ _ _ h => seq_imp h⟩
theorem dss_one {st : Stmt} {s : Sx} (h1 : DS X T W st s) : DSs X T W [st] s := ⟨pss_one h1.ps⟩
def sxK (fl : Fl) : Sx := fun ρ S => .ok (fl, ρ, S)
theorem ds_pass : DS X T W (.Pass pos) (sxK .nx) := ⟨PS.imp ps_pass fun D σ H ⟨ρ, m, G, S, hh, h⟩ => h σ m G H .refl hh⟩
theorem ds_break : DS X T W (.Break pos) (sxK .bk) := ⟨PS.imp ps_break fun D σ H ⟨ρ, m, G, S, hh, h⟩ => h σ m G H .refl hh⟩
theorem ds_continue : DS X T W (.Continue pos) (sxK .ct) := ⟨PS.imp ps_continue fun D σ H ⟨ρ, m, G, S, hh, h⟩ => h σ m G H .refl hh⟩
def sxE (f : Ex) : Sx := fun ρ S => (f ρ S).bind fun r => .ok (.nx, ρ, r.2)
theorem PostXS.at {K : PySem.W.Frag} {m : List Addr} {G H : Hp} {σ : St} {c : Addr} {S : Store} (h : PostXS K T W m G H c S) : PostX K T W σ m G H c S := fun m' G' H' st sr => h σ m' G' H' st sr
theorem ds_expr (ha : DE X T W e f) (hs : swapsWith e none pos.line X.env = pure false := by rfl) : DS X T W (.Expr e pos) (sxE f) := by
  refine ⟨PS.imp (ps_expr ha.pe hs) fun D σ H ⟨ρ, m, G, S, hh, h⟩ => ?_⟩
  refine tE.bind hh h (fun _ _ q => q.at) fun x S1 v m1 G1 H1 st1 hh1 rx h1 => ?_
  exact h1 σ m1 G1 H1 st1 hh1
def sxR (f : Ex) : Sx := fun ρ S => (f ρ S).bind fun r => .ok (.rt r.1, ρ, r.2)
theorem ds_ret (ha : DE X T W e f) : DS X T W (.Return (some e) pos) (sxR f) := by
  refine ⟨PS.imp (ps_ret ha.pe) fun D σ H ⟨ρ, m, G, S, hh, h⟩ => ?_⟩
  refine tE.bind hh h (fun _ _ q => q.at) fun x S1 v m1 G1 H1 st1 hh1 rx h1 => ?_
  exact h1 v m1 G1 H1 st1 hh1.2 rx
def sxRN : Sx := fun ρ S => .ok (.rt .non, ρ, S)
theorem ds_retN : DS X T W (.Return none pos) sxRN := ⟨PS.imp ps_retN fun D σ H ⟨ρ, m, G, S, hh, h⟩ => h _ m G H .refl hh.2 .non⟩
def sxIf (t : Tx) (s u : Sx) : Sx := fun ρ S => (t ρ S).bind fun r => if r.1 = true then s ρ r.2 else u ρ r.2
theorem ds_if {t : Tx} {A B : List Stmt} {s u : Sx} (hc : DT X T W c t) (ha : DSs X T W A s) (hb : DSs X T W B u) : DS X T W (.If c A B pos) (sxIf t s u) := by
  refine ⟨PS.imp (ps_if hc.pt ha.ps hb.ps) fun D σ H ⟨ρ, m, G, S, hh, h⟩ => ?_⟩
  refine tT.bind hh h (fun _ _ q => q.at) fun k S1 m1 G1 H1 st1 hh1 h1 => ?_
  have h1' := h1.nextS hh.2 st1
  cases k with
  | true => exact ⟨ρ, m1, G1, S1, hh1, h1'⟩
  | false => exact ⟨ρ, m1, G1, S1, hh1, h1'⟩
/-- a statement that is not come to -/
def sxNo : Sx := fun _ _ => .stuck
theorem ds_never {st : Stmt} : DS X T W st sxNo := ⟨PS.imp ps_never fun D σ H ⟨ρ, m, G, S, hh, h⟩ => h.elim⟩
theorem dss_never {st : List Stmt} : DSs X T W st sxNo := ⟨PSs.imp pss_never fun D σ H ⟨ρ, m, G, S, hh, h⟩ => h.elim⟩
def sxA (f : Ex) (g : Gx) : Sx := fun ρ S => (f ρ S).bind fun r => match g r.1 ρ with
  | some ρ1 => .ok (.nx, ρ1, r.2)
  | none => .stuck
theorem asg_imp {K : PySem.W.Frag} {g : Gx} {is : List Nat} {D : Ends} {σ : St} {H : Hp} (h : tSt K T W (sxA f g) D σ H) : tE K T W f σ H (fun x H1 => tGd K g is x σ H1 D.nx) := by
  obtain ⟨ρ, m, G, S, hh, h⟩ := h
  refine tE.bind hh h (fun _ _ q => q.at) fun x S1 v m1 G1 H1 st1 hh1 rx h1 => ?_
  cases e1 : g x ρ with
  | none => dsimp only at h1; rw [e1] at h1; exact h1.elim
  | some ρ1 =>
    dsimp only at h1; rw [e1] at h1
    exact ⟨x, ρ, m1, G1, hh1.1, hh1.2.fits, rx, ρ1, e1, fun σ' er' _ => h1 σ' m1 G1 H1 st1 ⟨er', hh1.2⟩⟩
theorem ds_asg {g : Gx} {is : List Nat} (ha : DE X T W e f) (hg : DG X tg g is) (hs : swapsWithSole [tg] e pos.line X.env = pure false := by rfl) (hw : swappedStores [tg] e X.env = pure none := by rfl)
    (h1 : (assignEach [tg] X.env).map (·.2) = [assign tg X.env] := by rfl) : DS X T W (.Assign [tg] e pos) (sxA f g) := ⟨PS.imp (ps_asg ha.pe hg.pg hs hw h1) fun D σ H h => asg_imp h⟩
/-- name = value -/
theorem ds_set (i : Nat) {x : Str} {pos' : Pos} (hN : X.N.Nodup) (ha : DE X T W e f) (hi : X.N[i]? = some x := by rfl) (hx : Loc X.env.scope x := by first | exact Or.inl rfl | exact Or.inr rfl) (hs : swapsWith e (some (.Name x pos')) pos.line X.env = pure false := by rfl)
    (hf : X.fn x = true ∨ X.env.scope.names.lookup x = some .local := by first | exact .inl rfl | exact .inr rfl) : DS X T W (.Assign [.Name x pos'] e pos) (sxA f (gN i)) := by
  refine ⟨PS.imp (ps_set hN hi hx ha.pe hs hf) fun D σ H h => ?_⟩
  obtain ⟨ρ, m, G, S, hh, h⟩ := h
  refine tE.bind hh h (fun _ _ q => q.at) fun x S1 v m1 G1 H1 st1 hh1 rx h1 => ?_
  exact h1 _ m1 G1 H1 st1 ⟨er_set hh1.1 rx, hh1.2⟩
/-- name = [..] -/
theorem ds_setLc {i : Nat} {y : Str} {py spos : Pos} {elt iter : Expr} {ifs : List Expr} {scope : Scope} {own : List (Str × Nat)} {it : Ix} {g : Gx} {is : List Nat} {t : Tx} {fe : Ex} (hc : X.calm = true) (hN : X.N.Nodup) (hi : DI X T W tg iter it) (ok : BlkOk X.N X.env.scope scope own)
    (hg : ∀ (s : Shared) (H : Hp) (C : Addr) (cl : List (Str × Addr)) (fp : List Addr), DG (X.blk s H scope (compEnvC scope cl C X.env) fp) tg g is) (ht : ∀ (s : Shared) (H : Hp) (C : Addr) (cl : List (Str × Addr)) (fp : List Addr), DTs (X.blk s H scope (compEnvC scope cl C X.env) fp) T WF ifs t)
    (he : ∀ (s : Shared) (H : Hp) (C : Addr) (cl : List (Str × Addr)) (fp : List Addr), DE (X.blk s H scope (compEnvC scope cl C X.env) fp) T WF elt fe)
    (hy : X.N[i]? = some y := by rfl) (hyl : X.env.scope.names.lookup y = some .local := by rfl)
    (hsw : swapsWith (.ListComp elt [⟨tg, iter, ifs, 0⟩] scope pos) (some (.Name y py)) spos.line X.env = pure true := by exact sw_true rfl rfl rfl (by decide +kernel)) (hv : ∀ j ∈ is, j ∈ own.map (·.2) := by decide) (hs : ∀ x, foldedSetIterable iter X.env x = pure x := by intro _; rfl) :
    DS X T W (.Assign [.Name y py] (.ListComp elt [⟨tg, iter, ifs, 0⟩] scope pos) spos) (sxA (exLc it g t fe (own.map (·.2))) (gN i)) := by
  refine ⟨PS.imp (ps_setLc (g := tGd X.K g is) (tt := tT X.K T WF t) (te := tE X.K T WF fe) hc hN hy hyl hsw hi.pi ok (fun s H C cl fp => (hg s H C cl fp).pg) (fun s H C cl fp => (ht s H C cl fp).pts) (fun s H C cl fp => (he s H C cl fp).pe) hs) fun D σ H h => ?_⟩
  obtain ⟨ρ, m, G, S, hh, h⟩ := h
  refine lc_imp hv ⟨ρ, m, G, S, hh, ?_⟩
  refine (Wants.bind h).imp (fun r hr v m1 G1 H1 st1 sr1 rx => ?_) fun _ _ q => q.at
  exact hr _ m1 G1 H1 st1 ⟨er_set (hh.1.mono st1) rx, sr1⟩
/-- a, b = x, y -/
def sxPar (g : Ax) (i j : Nat) : Sx := fun ρ S => (g ρ S).bind fun r => match r.1 with
  | [x, y] => .ok (.nx, (ρ.set i (some x)).set j (some y), r.2)
  | _ => .stuck
theorem ds_par (i j : Nat) {x y : Str} {px py pt : Pos} {kt k2 : Nat} {pt2 : Pos} {g : Ax} (hc : X.calm = true) (hN : X.N.Nodup) (ha : DA X T W [a, b] g) (hi : X.N[i]? = some x := by rfl) (hj : X.N[j]? = some y := by rfl) (hij : i ≠ j := by decide)
    (hx : X.env.scope.names.lookup x = some .local := by rfl) (hy : X.env.scope.names.lookup y = some .local := by rfl)
    (hw : swappedStores [.Tuple [.Name x px, .Name y py] kt pt] (.Tuple [a, b] k2 pt2) X.env = pure (some [x, y]) := by rfl)
    (hs : swapsWithSole [.Tuple [.Name x px, .Name y py] kt pt] (.Tuple [a, b] k2 pt2) pos.line X.env = pure false := by rfl) :
    DS X T W (.Assign [.Tuple [.Name x px, .Name y py] kt pt] (.Tuple [a, b] k2 pt2) pos) (sxPar g i j) := by
  refine ⟨PS.imp (ps_par hc hN hi hj hij hx hy ha.pa hw hs) fun D σ H ⟨ρ, m, G, S, hh, h⟩ => ?_⟩
  refine tA.bind hh h (fun _ _ q => q.at) fun xs S1 vs m1 G1 H1 st1 hh1 rs h1 => ?_
  dsimp only at h1
  split at h1
  · rename_i x y
    obtain ⟨v, u, rfl, r1, r2⟩ := rs.two
    exact ⟨v, u, rfl, h1 _ m1 G1 H1 st1 ⟨er_set (er_set hh1.1 r1) r2, hh1.2⟩⟩
  · exact h1.elim
def sxPar3 (g : Ax) (i j l : Nat) : Sx := fun ρ S => (g ρ S).bind fun r => match r.1 with
  | [x, y, z] => .ok (.nx, ((ρ.set i (some x)).set j (some y)).set l (some z), r.2)
  | _ => .stuck
theorem RpL.three {K : PySem.W.Frag} {m : List Addr} {G : Hp} {vs : List V} {d e f : D} (r : RpL K m G vs [d, e, f]) : ∃ v u w, vs = [v, u, w] ∧ Rp K m G v d ∧ Rp K m G u e ∧ Rp K m G w f := by
  cases r with
  | cons h1 h2 =>
    obtain ⟨u, w, rfl, h3, h4⟩ := h2.two
    exact ⟨_, u, w, rfl, h1, h3, h4⟩
theorem ds_par3 (i j l : Nat) {x y z : Str} {px py pz pt : Pos} {kt k2 : Nat} {pt2 : Pos} {g : Ax} (hc : X.calm = true) (hN : X.N.Nodup) (ha : DA X T W [a, b, c] g) (hi : X.N[i]? = some x := by rfl) (hj : X.N[j]? = some y := by rfl) (hl : X.N[l]? = some z := by rfl) (hij : i ≠ j := by decide) (hil : i ≠ l := by decide) (hjl : j ≠ l := by decide)
    (hx : X.env.scope.names.lookup x = some .local := by rfl) (hy : X.env.scope.names.lookup y = some .local := by rfl) (hz : X.env.scope.names.lookup z = some .local := by rfl)
    (hw : swappedStores [.Tuple [.Name x px, .Name y py, .Name z pz] kt pt] (.Tuple [a, b, c] k2 pt2) X.env = pure (some [x, y, z]) := by rfl)
    (hs : swapsWithSole [.Tuple [.Name x px, .Name y py, .Name z pz] kt pt] (.Tuple [a, b, c] k2 pt2) pos.line X.env = pure false := by rfl) :
    DS X T W (.Assign [.Tuple [.Name x px, .Name y py, .Name z pz] kt pt] (.Tuple [a, b, c] k2 pt2) pos) (sxPar3 g i j l) := by
  refine ⟨PS.imp (ps_par3 hc hN hi hj hl hij hil hjl hx hy hz ha.pa hw hs) fun D σ H ⟨ρ, m, G, S, hh, h⟩ => ?_⟩
  refine tA.bind hh h (fun _ _ q => q.at) fun xs S1 vs m1 G1 H1 st1 hh1 rs h1 => ?_
  dsimp only at h1
  split at h1
  · rename_i x y z
    obtain ⟨v, u, w, rfl, r1, r2, r3⟩ := rs.three
    exact ⟨v, u, w, rfl, h1 _ m1 G1 H1 st1 ⟨er_set (er_set (er_set hh1.1 r1) r2) r3, hh1.2⟩⟩
  · exact h1.elim

/-! ### loops -/
def forL (g : Gx) (s : Sx) (ck : Option (Nat × List D)) : List D → Sx
  | [], ρ, S => .ok (.nx, ρ, S)
  | d :: ds, ρ, S => match g d ρ with
    | none => .stuck
    | some ρ1 => (s ρ1 S).bind fun r => match r.1 with
      | .nx => if ckB ck r.2.2 = true then forL g s ck ds r.2.1 r.2.2 else .stuck
      | .ct => if ckB ck r.2.2 = true then forL g s ck ds r.2.1 r.2.2 else .stuck
      | .bk => .ok (.nx, r.2.1, r.2.2)
      | .rt d => .ok (.rt d, r.2.1, r.2.2)
def sxFor (it : Ix) (g : Gx) (s : Sx) : Sx := fun ρ S => (it ρ S).bind fun r => forL g s r.1.2 r.1.1 ρ r.2
section
variable {K : PySem.W.Frag} {m m1 : List Addr} {G G1 H H1 : Hp} {S S1 : Store} {σ : St} {ρ : DEnv}
theorem for_run {J : It} {g : Gx} {is : List Nat} {s : Sx} {ds : List D} {ck : Option (Nat × List D)} {D : Ends} (hh : Here K T σ ρ m1 G1 S1 H1) (hck : ckB ck S1 = true) (hy : Yields K T J m1 G1 ds ck)
    (h : Wants (forL g s ck ds ρ S1) (PostS K T m1 G1 H1 D) (PostXS K T W m1 G1 H1)) :
    ∃ W' : Nat → Nat → St → Hp → Prop, (∃ m, W' 0 m σ H1) ∧ ∀ i m σ H, W' i m σ H →
      (J.stop i H ∧ D.nx σ H) ∨ (J.go i H ∧ ∃ N : St → Hp → Prop, (∀ σ' H', N σ' H' → ∃ m', m' < m ∧ W' (i + 1) m' σ' H') ∧ ∀ x H', J.yld i H x H' → tGd K g is x σ H' fun σ2 H2 => tSt K T W s { D with nx := N, ct := N, bk := D.nx } σ2 H2) := by
  let I : Nat → St → Hp → Prop := fun i σ H => i ≤ ds.length ∧ ∃ m G S ρ, Stp m1 G1 H1 m G H ∧ Here K T σ ρ m G S H ∧ ckB ck S = true ∧ Wants (forL g s ck (ds.drop i) ρ S) (PostS K T m1 G1 H1 D) (PostXS K T W m1 G1 H1)
  refine ⟨fun i k σ H => k = ds.length - i ∧ I i σ H, ⟨_, rfl, Nat.zero_le _, m1, G1, S1, ρ, .refl, hh, hck, by simpa using h⟩, ?_⟩
  rintro i k σ H ⟨rfl, hle, m, G, S, ρ, st, hh2, hck, hw⟩
  have lt : Later m1 G1 m G := ⟨st.pre, st.ge⟩
  by_cases hlt : i < ds.length
  · refine .inr ⟨hy.go i m G S H lt hh2.2 hck hlt, I (i + 1), fun σ' H' h' => ⟨_, by omega, rfl, h'⟩, fun x H' y => ?_⟩
    have hd : ds[i]? = some ds[i] := List.getElem?_eq_getElem hlt
    obtain ⟨G', st', sr', rp⟩ := hy.yld i ds[i] m G S H x H' lt hh2.2 hck hd y
    have st1 := st.trans st' hh.2.fits
    rw [List.drop_eq_getElem_cons hlt] at hw
    unfold forL at hw
    cases e1 : g ds[i] ρ with
    | none => rw [e1] at hw; exact hw.elim
    | some ρ1 =>
      rw [e1] at hw
      dsimp only at hw
      refine ⟨ds[i], ρ, m, G', hh2.1.mono st', sr'.fits, rp, ρ1, e1, fun σ2 er2 _ => ⟨ρ1, m, G', S, ⟨er2, sr'⟩, ?_⟩⟩
      have hw2 := (Wants.bind hw)
      cases e2 : s ρ1 S with
      | stuck => rw [e2] at hw2; exact hw2.elim
      | exc c S' =>
        rw [e2] at hw2
        exact PostXS.next hh.2 st1 hw2
      | ok r =>
        obtain ⟨fl, ρ2, S2⟩ := r
        rw [e2] at hw2
        have hw2 : Wants (match fl with
          | .nx => if ckB ck S2 = true then forL g s ck (ds.drop (i + 1)) ρ2 S2 else .stuck
          | .ct => if ckB ck S2 = true then forL g s ck (ds.drop (i + 1)) ρ2 S2 else .stuck
          | .bk => .ok (.nx, ρ2, S2)
          | .rt d => .ok (.rt d, ρ2, S2)) (PostS K T m1 G1 H1 D) (PostXS K T W m1 G1 H1) := hw2
        have again : (Wants (if ckB ck S2 = true then forL g s ck (ds.drop (i + 1)) ρ2 S2 else .stuck) (PostS K T m1 G1 H1 D) (PostXS K T W m1 G1 H1)) → ∀ σ' m' G'' H'', Stp m G' H' m' G'' H'' → Here K T σ' ρ2 m' G'' S2 H'' → I (i + 1) σ' H'' := by
          intro hq σ' m' G'' H'' st3 hh3
          split at hq
          case isFalse => exact hq.elim
          case isTrue hc => exact ⟨hlt, m', G'', S2, ρ2, st1.trans st3 hh.2.fits, hh3, hc, hq⟩
        cases fl with
        | nx => exact again hw2
        | ct => exact again hw2
        | bk => exact fun σ' m' G'' H'' st3 hh3 => hw2 σ' m' G'' H'' (st1.trans st3 hh.2.fits) hh3
        | rt d => exact fun v m' G'' H'' st3 sr3 rp3 => hw2 v m' G'' H'' (st1.trans st3 hh.2.fits) sr3 rp3
  · have e : i = ds.length := by omega
    subst e
    refine .inl ⟨hy.stop m G S H lt hh2.2 hck, ?_⟩
    rw [List.drop_length] at hw
    have hw : PostS K T m1 G1 H1 D (.nx, ρ, S) := hw
    exact hw σ m G H st hh2
end
theorem ds_for {iter : Expr} {body : List Stmt} {it : Ix} {g : Gx} {is : List Nat} {s : Sx} (hp : PassesOwn (model X.prog X.w) X.A X.env X.xe) (hc : X.calm = true) (hi : DI X T W tg iter it) (hg : DG X tg g is) (hb : DSs X T W body s)
    (hs : ∀ x, foldedSetIterable iter X.env x = pure x := by intro _; rfl) : DS X T W (.For tg iter body [] pos) (sxFor it g s) := by
  refine ⟨PS.imp (ps_for hp hc hi.pi hg.pg hb.ps hs) fun D σ H ⟨ρ, m, G, S, hh, h⟩ => ?_⟩
  refine ⟨ρ, m, G, S, hh, (Wants.bind h).imp (fun r hr m' G' H' J st sr hck hy => ?_) fun _ _ q => q.at⟩
  exact for_run ⟨hh.1.mono st, sr⟩ hck hy (hr.imp (fun _ q => q.next hh.2 st) fun _ _ q => q.next hh.2 st)
/-- while, at most n turns -/
def whL (t : Tx) (s : Sx) : Nat → Sx
  | 0, _, _ => .stuck
  | n + 1, ρ, S => (t ρ S).bind fun r => if r.1 = true then (s ρ r.2).bind fun q => (match q.1 with
      | .nx => whL t s n q.2.1 q.2.2
      | .ct => whL t s n q.2.1 q.2.2
      | .bk => .ok (.nx, q.2.1, q.2.2)
      | .rt d => .ok (.rt d, q.2.1, q.2.2))
    else .ok (.nx, ρ, r.2)
/-- more turns than any loop here has -/
def fuel : Nat := 1099511627776
def sxWh (t : Tx) (s : Sx) : Sx := fun ρ S => whL t s fuel ρ S
theorem whL_more {t : Tx} {s : Sx} : ∀ {n : Nat} {ρ : DEnv} {S : Store}, whL t s n ρ S ≠ .stuck → ∀ k, whL t s (n + k) ρ S = whL t s n ρ S
  | 0, _, _, h, _ => (h rfl).elim
  | n + 1, ρ, S, h, k => by
    have e : n + 1 + k = (n + k) + 1 := by omega
    rw [e]
    unfold whL at h ⊢
    cases q : t ρ S with
    | stuck => rfl
    | exc c S' => rfl
    | ok r =>
      rw [q] at h
      simp only [Res.bind_ok] at h ⊢
      cases hb : r.1 with
      | false => rfl
      | true =>
        rw [hb] at h
        simp only [if_true] at h ⊢
        cases q2 : s ρ r.2 with
        | stuck => rfl
        | exc c S' => rfl
        | ok z =>
          rw [q2] at h
          simp only [Res.bind_ok] at h ⊢
          cases hz : z.1 with
          | nx => rw [hz] at h; exact whL_more h k
          | ct => rw [hz] at h; exact whL_more h k
          | bk => rfl
          | rt d => rfl
theorem sxWh_eq {t : Tx} {s : Sx} {n : Nat} {ρ : DEnv} {S : Store} {r : Res (Fl × DEnv × Store)} (hn : n ≤ fuel) (h : whL t s n ρ S = r) (hr : r ≠ .stuck) : sxWh t s ρ S = r := by
  have e := whL_more (by rw [h]; exact hr : whL t s n ρ S ≠ .stuck) (fuel - n)
  rw [Nat.add_sub_cancel' hn] at e
  unfold sxWh
  rw [e, h]
theorem ds_while {t : Tx} {body : List Stmt} {s : Sx} (hp : PassesOwn (model X.prog X.w) X.A X.env X.xe) (hc : DT X T W c t) (hb : DSs X T W body s) : DS X T W (.While c body [] pos) (sxWh t s) := by
  refine ⟨PS.imp (ps_while hp hc.pt hb.ps) fun D σ H0 ⟨ρ, m0, G0, S, hh, h⟩ => ?_⟩
  refine ⟨fun n σ H => ∃ m G S ρ, Stp m0 G0 H0 m G H ∧ Here X.K T σ ρ m G S H ∧ Wants (whL t s n ρ S) (PostS X.K T m0 G0 H0 D) (PostXS X.K T W m0 G0 H0), ⟨fuel, m0, G0, S, ρ, .refl, hh, h⟩, ?_⟩
  rintro n σ H ⟨m, G, S, ρ, st, hh1, hw⟩
  cases n with
  | zero => exact hw.elim
  | succ n =>
    unfold whL at hw
    refine tT.bind hh1 hw (fun _ _ q => (PostXS.next hh.2 st q).at) fun k S1 m1 G1 H1 st1 hh2 hw1 => ?_
    have st01 := st.trans st1 hh.2.fits
    cases k with
    | false =>
      rw [if_neg Bool.false_ne_true]
      exact hw1 σ m1 G1 H1 st01 hh2
    | true =>
      rw [if_pos rfl]
      refine ⟨fun σ' H' => ∃ m G S ρ, Stp m0 G0 H0 m G H' ∧ Here X.K T σ' ρ m G S H' ∧ Wants (whL t s n ρ S) (PostS X.K T m0 G0 H0 D) (PostXS X.K T W m0 G0 H0), fun σ' H' h' => ⟨n, by omega, h'⟩, ρ, m1, G1, S1, hh2, ?_⟩
      have hw2 : Wants ((s ρ S1).bind fun q => (match q.1 with
        | .nx => whL t s n q.2.1 q.2.2
        | .ct => whL t s n q.2.1 q.2.2
        | .bk => .ok (.nx, q.2.1, q.2.2)
        | .rt d => .ok (.rt d, q.2.1, q.2.2))) (PostS X.K T m0 G0 H0 D) (PostXS X.K T W m0 G0 H0) := hw1
      refine (Wants.bind hw2).imp (fun r hr => ?_) fun _ _ q => PostXS.next hh.2 st01 q
      obtain ⟨fl, ρ2, S2⟩ := r
      cases fl with
      | nx => exact fun σ' m' G'' H'' st3 hh3 => ⟨m', G'', S2, ρ2, st01.trans st3 hh.2.fits, hh3, hr⟩
      | ct => exact fun σ' m' G'' H'' st3 hh3 => ⟨m', G'', S2, ρ2, st01.trans st3 hh.2.fits, hh3, hr⟩
      | bk => exact fun σ' m' G'' H'' st3 hh3 => hr σ' m' G'' H'' (st01.trans st3 hh.2.fits) hh3
      | rt d => exact fun v m' G'' H'' st3 sr3 rp3 => hr v m' G'' H'' (st01.trans st3 hh.2.fits) sr3 rp3
end
end DL

/-! DL6: calls of built-ins, methods of built-in types, a def's promise and its call, raise. -/
namespace DL
open PySem PySem.Spec L2

section
variable {X : Cx} {T : List (Addr × Str)} {W : WX} {a b c e tg : Expr} {es : List Expr} {f f1 f2 f3 : Ex} {g : Ax} {pos : Pos}

/-! ### built-ins by name -/
def CallD (K : PySem.W.Frag) (T : List (Addr × Str)) (r : List V → Hp → VK → Prop) (g : Store → List D → Option D) : Prop :=
  ∀ (m : List Addr) (G : Hp) (S : Store) (H : Hp) (xs : List D) (vs : List V) (d : D) (Q : VK), Sr K T m G S H → RpL K m G vs xs → g S xs = some d → PostE K T m G H Q (d, S) → r vs H Q
theorem CallD.or {K : PySem.W.Frag} {r r' : List V → Hp → VK → Prop} {g g' : Store → List D → Option D} (h : CallD K T r g) (h' : CallD K T r' g') : CallD K T (fun vs H Q => r vs H Q ∨ r' vs H Q) (fun S xs => match g S xs with | some d => some d | none => g' S xs) := by
  intro m G S H xs vs d Q sr rs e p
  cases q : g S xs with
  | some d' => dsimp only at e; rw [q] at e; cases e; exact .inl (h m G S H xs vs _ Q sr rs q p)
  | none => dsimp only at e; rw [q] at e; exact .inr (h' m G S H xs vs d Q sr rs e p)
def exB (gf : Store → List D → Option D) (g : Ax) : Ex := fun ρ S => (g ρ S).bind fun r => lft r.2 (gf r.2 r.1)
theorem callB_imp {K : PySem.W.Frag} {r : List V → Hp → VK → Prop} {gf : Store → List D → Option D} (hg : CallD K T r gf) {σ : St} {H : Hp} {Q : VK} (h : tE K T W (exB gf g) σ H Q) : tCB r (tA K T W g) σ H Q := by
  obtain ⟨ρ, m, G, S, hh, h⟩ := h
  refine tA.bind hh h (fun _ _ q => q) fun xs S1 vs m1 G1 H1 st1 hh1 rs h1 => ?_
  obtain ⟨d, e, p⟩ := lft_want (h1.nextE hh.2 st1)
  exact hg m1 G1 S1 H1 xs vs d Q hh1.2 rs e p
theorem de_callB {x : Str} {p : Pos} {id : String} {r : List V → Hp → VK → Prop} {gf : Store → List D → Option D} (hc : CallR X (.builtin id) r) (hgf : CallD X.K T r gf) (hg : Gl X x) (hm : X.mg x = none) (hv : bootBuiltins x = some (.builtin id)) (ha : DA X T W (e :: es) g) (hn : x ≠ "__name__" := by decide) (hdb : (x == ("__debug__" : Str)) = false := by decide)
    (he : starEach (e :: es) X.env = (false, eval e X.env) :: starEach es X.env := by rfl) (hpl : (backTo pos (starEach es X.env)).any (·.1) = false := by rfl) : DE X T W (.Call (.Name x p) (e :: es) [] pos) (exB gf g) :=
  ⟨PE.imp (pe_callB hc hg hm hv ha.pa hn hdb he hpl) fun _ _ _ h => callB_imp hgf h⟩
theorem de_callTy {x : Str} {p : Pos} {id : String} {r : List V → Hp → VK → Prop} {gf : Store → List D → Option D} (hc : CallR X (.type id) r) (hgf : CallD X.K T r gf) (hg : Gl X x) (hm : X.mg x = none) (hv : bootBuiltins x = some (.type id)) (ha : DA X T W (e :: es) g) (hn : x ≠ "__name__" := by decide) (hdb : (x == ("__debug__" : Str)) = false := by decide)
    (he : starEach (e :: es) X.env = (false, eval e X.env) :: starEach es X.env := by rfl) (hpl : (backTo pos (starEach es X.env)).any (·.1) = false := by rfl) : DE X T W (.Call (.Name x p) (e :: es) [] pos) (exB gf g) :=
  ⟨PE.imp (pe_callTy hc hg hm hv ha.pa hn hdb he hpl) fun _ _ _ h => callB_imp hgf h⟩
/-- len -/
def lenD (S : Store) : D → Option Nat
  | .str z => if z.length ≤ sizeLine then some z.length else none
  | .tup ds => some ds.length
  | .dct kvs => some kvs.length
  | x => match lstOf S x with
    | some ds => some ds.length
    | none => (dctOf S x).map List.length
def gLen (S : Store) : List D → Option D
  | [x] => (lenD S x).map fun n => .int (n : Int)
  | _ => none
def rLenAll (K : PySem.W.Frag) : List V → Hp → VK → Prop := fun xs H Q => (∃ x n, xs = [x] ∧ LenV K x H n ∧ Q (.int n) H) ∨ ∃ a kvs, xs = [.ref a] ∧ Rd H a (.dK kvs) ∧ Q (.int kvs.length) H
theorem call_lenAll : CallR X (.builtin "len") (rLenAll X.K) := CallR.or call_len (by
  intro pins s σ H xs us Q I r h
  obtain ⟨a, kvs, rfl, ha, q⟩ := h
  obtain ⟨u, rfl, ru⟩ := vals1 r
  cases ru
  exact d_len I ha fun t s' I' => ⟨.int kvs.length, H, I', ⟨t, rfl⟩, q⟩)
theorem cd_len {K : PySem.W.Frag} : CallD K T (rLenAll K) gLen := by
  intro m G S H xs vs d Q sr rs e p
  unfold gLen at e
  split at e
  · rename_i x
    obtain ⟨v, rfl, r⟩ := rs.one
    cases q : lenD S x with
    | none => rw [q] at e; cases e
    | some n =>
      rw [q] at e; cases e
      have lists : ∀ {x : D}, Rp K m G v x → ((match lstOf S x with | some ds => some ds.length | none => (dctOf S x).map List.length) = some n) → rLenAll K [v] H Q := by
        intro x r q
        cases e1 : lstOf S x with
        | some ds =>
          rw [e1] at q; cases q
          obtain ⟨a, xs, rfl, h1, h2⟩ := lstOf_at sr r e1
          refine .inl ⟨_, xs.length, rfl, .inl ⟨xs, h1, rfl⟩, ?_⟩
          rw [h2.length]
          exact p.same sr (.int _)
        | none =>
          rw [e1] at q
          cases e2 : dctOf S x with
          | none => dsimp only at q; rw [e2] at q; cases q
          | some kvs =>
            dsimp only at q; rw [e2] at q; cases q
            obtain ⟨a, ks, rfl, h1, h2⟩ := dct_at sr r e2
            refine .inr ⟨a, ks, rfl, h1, ?_⟩
            rw [h2.length]
            exact p.same sr (.int _)
      cases x with
      | str z =>
        cases r
        unfold lenD at q
        dsimp only at q
        split at q
        case isFalse => cases q
        case isTrue hl => cases q; exact .inl ⟨_, _, rfl, ⟨hl, rfl⟩, p.same sr (.int _)⟩
      | tup ds =>
        obtain ⟨a, xs, rfl, h1, h2⟩ := tup_at sr r
        cases q
        refine .inl ⟨_, xs.length, rfl, .inr ⟨xs, h1, rfl⟩, ?_⟩
        rw [h2.length]
        exact p.same sr (.int _)
      | dct kvs =>
        obtain ⟨a, ks, rfl, h1, h2⟩ := dct_at (kvs := kvs) sr r rfl
        cases q
        refine .inr ⟨a, ks, rfl, h1, ?_⟩
        rw [h2.length]
        exact p.same sr (.int _)
      | lst ds => exact lists r q
      | xc a c => exact lists r q
      | frz ds => exact lists r q
      | loc n => exact lists r q
      | non => exact lists r q
      | bl _ => exact lists r q
      | int _ => exact lists r q
  · cases e
theorem de_len {p : Pos} (hg : Gl X "len") (hm : X.mg "len" = none) (ha : DA X T W [e] g) (he : starEach [e] X.env = [(false, eval e X.env)] := by rfl) : DE X T W (.Call (.Name "len" p) [e] [] pos) (exB gLen g) :=
  de_callB call_lenAll cd_len hg hm PySem.boot_len ha (he := he) (hpl := by rfl)
/-- abs, max, min of whole numbers -/
def gAbs (_ : Store) : List D → Option D
  | [.int i] => some (.int (if i < 0 then -i else i))
  | _ => none
theorem cd_abs {K : PySem.W.Frag} : CallD K T (fun xs H Q => ∃ i, xs = [.int i] ∧ Q (.int (if i < 0 then -i else i)) H) gAbs := by
  intro m G S H xs vs d Q sr rs e p
  unfold gAbs at e
  split at e
  · obtain ⟨v, rfl, r⟩ := rs.one
    cases r; cases e
    exact ⟨_, rfl, p.same sr (.int _)⟩
  · cases e
theorem de_abs {p : Pos} (hg : Gl X "abs") (hm : X.mg "abs" = none) (ha : DA X T W [e] g) (he : starEach [e] X.env = [(false, eval e X.env)] := by rfl) : DE X T W (.Call (.Name "abs" p) [e] [] pos) (exB gAbs g) :=
  de_callB call_abs cd_abs hg hm (by decide +kernel) ha (he := he) (hpl := by rfl)
def gMax2 (_ : Store) : List D → Option D
  | [.int i, .int j] => some (.int (if j > i then j else i))
  | _ => none
def gMin2 (_ : Store) : List D → Option D
  | [.int i, .int j] => some (.int (if j < i then j else i))
  | _ => none
theorem cd_max2 {K : PySem.W.Frag} : CallD K T (fun xs H Q => ∃ i j, xs = [.int i, .int j] ∧ Q (.int (if j > i then j else i)) H) gMax2 := by
  intro m G S H xs vs d Q sr rs e p
  unfold gMax2 at e
  split at e
  · obtain ⟨v, u, rfl, r, r'⟩ := rs.two
    cases r; cases r'; cases e
    exact ⟨_, _, rfl, p.same sr (.int _)⟩
  · cases e
theorem cd_min2 {K : PySem.W.Frag} : CallD K T (fun xs H Q => ∃ i j, xs = [.int i, .int j] ∧ Q (.int (if j < i then j else i)) H) gMin2 := by
  intro m G S H xs vs d Q sr rs e p
  unfold gMin2 at e
  split at e
  · obtain ⟨v, u, rfl, r, r'⟩ := rs.two
    cases r; cases r'; cases e
    exact ⟨_, _, rfl, p.same sr (.int _)⟩
  · cases e
theorem de_max2 {p : Pos} (hc : X.calm = true) (hg : Gl X "max") (hm : X.mg "max" = none) (ha : DA X T W [a, b] g) (he : starEach [a, b] X.env = (false, eval a X.env) :: starEach [b] X.env := by rfl) (hpl : (backTo pos (starEach [b] X.env)).any (·.1) = false := by rfl) : DE X T W (.Call (.Name "max" p) [a, b] [] pos) (exB gMax2 g) :=
  de_callB (call_max2 hc) cd_max2 hg hm (by decide +kernel) ha (he := he) (hpl := hpl)
theorem de_min2 {p : Pos} (hc : X.calm = true) (hg : Gl X "min") (hm : X.mg "min" = none) (ha : DA X T W [a, b] g) (he : starEach [a, b] X.env = (false, eval a X.env) :: starEach [b] X.env := by rfl) (hpl : (backTo pos (starEach [b] X.env)).any (·.1) = false := by rfl) : DE X T W (.Call (.Name "min" p) [a, b] [] pos) (exB gMin2 g) :=
  de_callB (call_min2 hc) cd_min2 hg hm (by decide +kernel) ha (he := he) (hpl := hpl)
/-- int(x) of a number or a truth -/
def gInt (_ : Store) : List D → Option D
  | [.int i] => some (.int i)
  | [.bl k] => some (.int (if k then 1 else 0))
  | _ => none
theorem cd_int {K : PySem.W.Frag} : CallD K T (fun xs H Q => (∃ i, xs = [.int i] ∧ Q (.int i) H) ∨ ∃ k, xs = [.bl k] ∧ Q (.int (if k then 1 else 0)) H) gInt := by
  intro m G S H xs vs d Q sr rs e p
  unfold gInt at e
  split at e
  · obtain ⟨v, rfl, r⟩ := rs.one
    cases r; cases e
    exact .inl ⟨_, rfl, p.same sr (.int _)⟩
  · obtain ⟨v, rfl, r⟩ := rs.one
    cases r; cases e
    exact .inr ⟨_, rfl, p.same sr (.int _)⟩
  · cases e
theorem de_intc {p : Pos} (hg : Gl X "int") (hm : X.mg "int" = none) (ha : DA X T W [e] g) (he : starEach [e] X.env = [(false, eval e X.env)] := by rfl) : DE X T W (.Call (.Name "int" p) [e] [] pos) (exB gInt g) :=
  de_callTy call_int1 cd_int hg hm (by decide +kernel) ha (he := he) (hpl := by rfl)
/-- lists of whole numbers, of truths -/
def intsOf : List D → Option (List Int)
  | [] => some []
  | .int i :: r => (intsOf r).map (i :: ·)
  | _ => none
def blsOf : List D → Option (List Bool)
  | [] => some []
  | .bl i :: r => (blsOf r).map (i :: ·)
  | _ => none
def strsOf : List D → Option (List Str)
  | [] => some []
  | .str i :: r => (strsOf r).map (i :: ·)
  | _ => none
section
variable {K : PySem.W.Frag} {m : List Addr} {G : Hp}
theorem intsOf_rp : ∀ {vs : List V} {ds : List D} {ns : List Int}, RpL K m G vs ds → intsOf ds = some ns → vs = ns.map V.int
  | _, [], _, r, e => by cases r; cases e; rfl
  | _, d :: ds, _, r, e => by
    cases r with
    | cons h1 h2 =>
      cases d with
      | int i =>
        have e : (intsOf ds).map (i :: ·) = some _ := e
        cases q : intsOf ds with
        | none => rw [q] at e; cases e
        | some ns =>
          rw [q] at e; cases e
          cases h1
          rw [intsOf_rp h2 q]; rfl
      | _ => cases e
theorem blsOf_rp : ∀ {vs : List V} {ds : List D} {ns : List Bool}, RpL K m G vs ds → blsOf ds = some ns → vs = ns.map V.bl
  | _, [], _, r, e => by cases r; cases e; rfl
  | _, d :: ds, _, r, e => by
    cases r with
    | cons h1 h2 =>
      cases d with
      | bl i =>
        have e : (blsOf ds).map (i :: ·) = some _ := e
        cases q : blsOf ds with
        | none => rw [q] at e; cases e
        | some ns =>
          rw [q] at e; cases e
          cases h1
          rw [blsOf_rp h2 q]; rfl
      | _ => cases e
theorem strsOf_rp : ∀ {vs : List V} {ds : List D} {ns : List Str}, RpL K m G vs ds → strsOf ds = some ns → vs = ns.map V.str
  | _, [], _, r, e => by cases r; cases e; rfl
  | _, d :: ds, _, r, e => by
    cases r with
    | cons h1 h2 =>
      cases d with
      | str i =>
        have e : (strsOf ds).map (i :: ·) = some _ := e
        cases q : strsOf ds with
        | none => rw [q] at e; cases e
        | some ns =>
          rw [q] at e; cases e
          cases h1
          rw [strsOf_rp h2 q]; rfl
      | _ => cases e
theorem rp_strs : ∀ ns : List Str, RpL K m G (ns.map V.str) (ns.map D.str)
  | [] => .nil
  | n :: ns => .cons (.str n) (rp_strs ns)
end
def gSum (S : Store) : List D → Option D
  | [x] => ((lstOf S x).bind intsOf).map fun ns => .int ns.sum
  | _ => none
theorem cd_sum {K : PySem.W.Frag} : CallD K T (rSum K) gSum := by
  intro m G S H xs vs d Q sr rs e p
  unfold gSum at e
  split at e
  · rename_i x
    obtain ⟨v, rfl, r⟩ := rs.one
    cases e1 : lstOf S x with
    | none => rw [e1] at e; cases e
    | some ds =>
      rw [e1] at e
      have e : (intsOf ds).map (fun ns => D.int ns.sum) = some d := e
      cases e2 : intsOf ds with
      | none => rw [e2] at e; cases e
      | some ns =>
        rw [e2] at e; cases e
        obtain ⟨a, xs, rfl, h1, h2⟩ := lstOf_at sr r e1
        rw [intsOf_rp h2 e2] at h1
        exact ⟨a, ns, rfl, h1, p.same sr (.int _)⟩
  · cases e
theorem de_sum {p : Pos} (hc : X.calm = true) (hg : Gl X "sum") (hm : X.mg "sum" = none) (ha : DA X T W [e] g) (he : starEach [e] X.env = [(false, eval e X.env)] := by rfl) : DE X T W (.Call (.Name "sum" p) [e] [] pos) (exB gSum g) :=
  de_callB (cr_sum hc) cd_sum hg hm (by decide +kernel) ha (he := he) (hpl := by rfl)
def gAll (S : Store) : List D → Option D
  | [x] => ((lstOf S x).bind blsOf).map fun ns => .bl (ns.all id)
  | _ => none
def gAny (S : Store) : List D → Option D
  | [x] => ((lstOf S x).bind blsOf).map fun ns => .bl (ns.any id)
  | _ => none
theorem cd_all {K : PySem.W.Frag} : CallD K T (rAll K) gAll := by
  intro m G S H xs vs d Q sr rs e p
  unfold gAll at e
  split at e
  · rename_i x
    obtain ⟨v, rfl, r⟩ := rs.one
    cases e1 : lstOf S x with
    | none => rw [e1] at e; cases e
    | some ds =>
      rw [e1] at e
      have e : (blsOf ds).map (fun ns => D.bl (ns.all id)) = some d := e
      cases e2 : blsOf ds with
      | none => rw [e2] at e; cases e
      | some ns =>
        rw [e2] at e; cases e
        obtain ⟨a, xs, rfl, h1, h2⟩ := lstOf_at sr r e1
        rw [blsOf_rp h2 e2] at h1
        exact ⟨a, ns, rfl, h1, p.same sr (.bl _)⟩
  · cases e
theorem cd_any {K : PySem.W.Frag} : CallD K T (rAny K) gAny := by
  intro m G S H xs vs d Q sr rs e p
  unfold gAny at e
  split at e
  · rename_i x
    obtain ⟨v, rfl, r⟩ := rs.one
    cases e1 : lstOf S x with
    | none => rw [e1] at e; cases e
    | some ds =>
      rw [e1] at e
      have e : (blsOf ds).map (fun ns => D.bl (ns.any id)) = some d := e
      cases e2 : blsOf ds with
      | none => rw [e2] at e; cases e
      | some ns =>
        rw [e2] at e; cases e
        obtain ⟨a, xs, rfl, h1, h2⟩ := lstOf_at sr r e1
        rw [blsOf_rp h2 e2] at h1
        exact ⟨a, ns, rfl, h1, p.same sr (.bl _)⟩
  · cases e
theorem de_all {p : Pos} (hc : X.calm = true) (hg : Gl X "all") (hm : X.mg "all" = none) (ha : DA X T W [e] g) (he : starEach [e] X.env = [(false, eval e X.env)] := by rfl) : DE X T W (.Call (.Name "all" p) [e] [] pos) (exB gAll g) :=
  de_callB (cr_all hc) cd_all hg hm (by decide +kernel) ha (he := he) (hpl := by rfl)
theorem de_any {p : Pos} (hc : X.calm = true) (hg : Gl X "any") (hm : X.mg "any" = none) (ha : DA X T W [e] g) (he : starEach [e] X.env = [(false, eval e X.env)] := by rfl) : DE X T W (.Call (.Name "any" p) [e] [] pos) (exB gAny g) :=
  de_callB (cr_any hc) cd_any hg hm (by decide +kernel) ha (he := he) (hpl := by rfl)
/-- the least, the greatest of whole numbers -/
def minI : List Int → Option Int
  | [] => none
  | i :: r => some (r.foldl min i)
def maxI : List Int → Option Int
  | [] => none
  | i :: r => some (r.foldl max i)
theorem foldl_min (r : List Int) : ∀ i : Int, (r.foldl min i = i ∨ r.foldl min i ∈ r) ∧ r.foldl min i ≤ i ∧ ∀ y ∈ r, r.foldl min i ≤ y := by
  induction r with
  | nil => intro i; simp
  | cons a r ih =>
    intro i
    obtain ⟨h1, h2, h3⟩ := ih (min i a)
    simp only [List.foldl_cons, List.mem_cons]
    refine ⟨?_, by omega, ?_⟩
    · rcases h1 with h1 | h1
      · rcases Int.min_def i a ▸ h1 with h
        by_cases hc : i ≤ a
        · left; omega
        · right; left; omega
      · exact .inr (.inr h1)
    · rintro y (rfl | hy)
      · omega
      · exact h3 y hy
theorem foldl_max (r : List Int) : ∀ i : Int, (r.foldl max i = i ∨ r.foldl max i ∈ r) ∧ i ≤ r.foldl max i ∧ ∀ y ∈ r, y ≤ r.foldl max i := by
  induction r with
  | nil => intro i; simp
  | cons a r ih =>
    intro i
    obtain ⟨h1, h2, h3⟩ := ih (max i a)
    simp only [List.foldl_cons, List.mem_cons]
    refine ⟨?_, by omega, ?_⟩
    · rcases h1 with h1 | h1
      · by_cases hc : a ≤ i
        · left; omega
        · right; left; omega
      · exact .inr (.inr h1)
    · rintro y (rfl | hy)
      · omega
      · exact h3 y hy
def gMin (S : Store) : List D → Option D
  | [x] => ((lstOf S x).bind intsOf).bind fun ns => (minI ns).map .int
  | _ => none
theorem cd_min {K : PySem.W.Frag} : CallD K T (rMin K) gMin := by
  intro m G S H xs vs d Q sr rs e p
  unfold gMin at e
  split at e
  · rename_i x
    obtain ⟨v, rfl, r⟩ := rs.one
    cases e1 : lstOf S x with
    | none => rw [e1] at e; cases e
    | some ds =>
      rw [e1] at e
      have e : (intsOf ds).bind (fun ns => (minI ns).map D.int) = some d := e
      cases e2 : intsOf ds with
      | none => rw [e2] at e; cases e
      | some ns =>
        rw [e2] at e
        obtain ⟨a, xs, rfl, h1, h2⟩ := lstOf_at sr r e1
        rw [intsOf_rp h2 e2] at h1
        cases ns with
        | nil => cases e
        | cons i r =>
          cases e
          obtain ⟨k1, k2, k3⟩ := foldl_min r i
          refine ⟨a, i :: r, rfl, h1, by simp, fun mm hm hle => ?_⟩
          have h4 : mm = r.foldl min i := by
            have l1 : mm ≤ r.foldl min i := hle _ (by rcases k1 with k1 | k1 <;> simp [k1])
            have l2 : r.foldl min i ≤ mm := by
              rcases List.mem_cons.mp hm with rfl | hm
              · exact k2
              · exact k3 _ hm
            omega
          rw [h4]
          exact p.same sr (.int _)
  · cases e
theorem de_min {p : Pos} (hc : X.calm = true) (hg : Gl X "min") (hm : X.mg "min" = none) (ha : DA X T W [e] g) (he : starEach [e] X.env = [(false, eval e X.env)] := by rfl) : DE X T W (.Call (.Name "min" p) [e] [] pos) (exB gMin g) :=
  de_callB (cr_min hc) cd_min hg hm (by decide +kernel) ha (he := he) (hpl := by rfl)

/-! ### isinstance of a built-in class -/
def tyD (S : Store) : D → Option String
  | .non => some "NoneType"
  | .bl _ => some "bool"
  | .int _ => some "int"
  | .str _ => some "str"
  | .tup _ => some "tuple"
  | .lst _ => some "list"
  | .frz _ => none
  | .dct _ => some "dict"
  | .loc n => match S[n]? with
    | some (.lst _) => some "list"
    | some (.dct _) => some "dict"
    | _ => none
  | .xc _ _ => none
theorem tyD_at {K : PySem.W.Frag} {m : List Addr} {G H : Hp} {S : Store} {v : V} {x : D} {t : String} (sr : Sr K T m G S H) (r : Rp K m G v x) (h : tyD S x = some t) : TyX K H v (.type t) := by
  cases r with
  | non => cases h; exact .base .non
  | bl b => cases h; exact .base (.bl b)
  | int i => cases h; exact .base (.int i)
  | str x => cases h; exact .base (.str x)
  | tup h1 h2 =>
    cases h
    rcases sqT_up sr.fits h1 with (q | ⟨o, q⟩) | ⟨o, its, n, q1, q2, _⟩
    · exact .base (.tup q)
    · exact .fTuple q
    · exact .kTuple q1 q2
  | lst h1 h2 => cases h; exact .base (.lst (sr.fits _ _ h1))
  | frz h1 h2 => cases h
  | xc a c => cases h
  | dct h1 h2 =>
    cases h
    rcases h1 with q | ⟨o, q⟩
    · exact .base (.dK (sr.fits _ _ q))
    · exact .fDict (sr.fits _ _ q)
  | @loc a n h1 =>
    unfold tyD at h
    dsimp only at h
    split at h
    · rename_i ds e
      cases h
      obtain ⟨xs, q1, _⟩ := sr.cell n _ a e h1
      exact .base (.lst q1)
    · rename_i ds e
      cases h
      obtain ⟨xs, q1, _⟩ := sr.cell n _ a e h1
      exact .base (.dK q1)
    · cases h
/-- of each type that data have: whether it is the class -/
def isiB (c : String) (t : String) : Bool := t == c || (t == "bool" && c == "int")
def exIsi (c : String) (f : Ex) : Ex := fun ρ S => (f ρ S).bind fun r => match tyD r.2 r.1 with
  | some t => .ok (.bl (isiB c t), r.2)
  | none => .stuck
def KitOk (K : PySem.W.Frag) (c : String) : Prop := ∀ t ∈ ["NoneType", "bool", "int", "str", "tuple", "list", "dict"], PySem.W.kitOne K (.type t) (.type c) = some (isiB c t)
theorem tyD_mem {S : Store} {x : D} {t : String} (h : tyD S x = some t) : t ∈ ["NoneType", "bool", "int", "str", "tuple", "list", "dict"] := by
  unfold tyD at h
  split at h <;> first | (cases h; simp) | cases h | skip
  split at h <;> first | (cases h; simp) | cases h
theorem de_isi {c : String} {y : Str} {p p2 : Pos} (hk : KitOk X.K c) (hg : Gl X "isinstance") (hm : X.mg "isinstance" = none) (hg2 : Gl X y) (hm2 : X.mg y = none) (hv2 : bootBuiltins y = some (.type c)) (ha : DE X T W a f) (hn2 : y ≠ "__name__" := by decide) (hd2 : (y == ("__debug__" : Str)) = false := by decide)
    (he : starEach [a, .Name y p2] X.env = (false, eval a X.env) :: starEach [.Name y p2] X.env := by rfl) (he2 : starEach [.Name y p2] X.env = (false, eval (.Name y p2) X.env) :: starEach [] X.env := by rfl) (hpl : (backTo pos (starEach [.Name y p2] X.env)).any (·.1) = false := by rfl) :
    DE X T W (.Call (.Name "isinstance" p) [a, .Name y p2] [] pos) (exIsi c f) := by
  refine ⟨PE.imp (pe_callB call_isi hg hm (by decide +kernel) (pa_cons ha.pe (pa_cons (pe_bltn (v := .ty c) hg2 hm2 hv2 rfl hn2 hd2) pa_nil he2) he) (he := he) (hpl := hpl)) fun σ H Q ⟨ρ, m, G, S, hh, h⟩ => ?_⟩
  refine tE.bind hh h (fun _ _ q => q) fun x S1 v m1 G1 H1 st1 hh1 rx h1 => ?_
  have h1' := h1.nextE hh.2 st1
  cases e : tyD S1 x with
  | none => dsimp only at h1'; rw [e] at h1'; exact h1'.elim
  | some t =>
    dsimp only at h1'; rw [e] at h1'
    exact ⟨v, .ty c, .type t, .type c, _, rfl, .ty c, tyD_at hh1.2 rx e, hk t (tyD_mem e), PostE.same h1' hh1.2 (.bl _)⟩
theorem kitOk_of {K : PySem.W.Frag} {c : String} (h : (["NoneType", "bool", "int", "str", "tuple", "list", "dict"].all fun t => kitB t c == some (isiB c t)) = true) : KitOk K c := fun t ht => kit_ty (by
  have := List.all_eq_true.mp h t ht
  exact beq_iff_eq.mp this)
theorem kit_int {K : PySem.W.Frag} : KitOk K "int" := kitOk_of (by decide +kernel)
theorem kit_bool {K : PySem.W.Frag} : KitOk K "bool" := kitOk_of (by decide +kernel)
theorem kit_str {K : PySem.W.Frag} : KitOk K "str" := kitOk_of (by decide +kernel)
theorem kit_tuple {K : PySem.W.Frag} : KitOk K "tuple" := kitOk_of (by decide +kernel)
theorem kit_list {K : PySem.W.Frag} : KitOk K "list" := kitOk_of (by decide +kernel)
theorem kit_dict {K : PySem.W.Frag} : KitOk K "dict" := kitOk_of (by decide +kernel)
end
end DL

/-! DL7: a def's promise by a total function, its call, raise, what changes a list. -/
namespace DL
open PySem PySem.Spec L2

/-! ### promises -/
abbrev Fx := List D → Store → Res (D × Store)
def PostXE (K : PySem.W.Frag) (T : List (Addr × Str)) (E : XK) (m : List Addr) (G H : Hp) : Addr → Store → Prop := fun c S' => ∀ m' G' H', Stp m G H m' G' H' → Sr K T m' G' S' H' → E (.ref c) none H'
def spF (K : PySem.W.Frag) (T : List (Addr × Str)) (n : Nat) (F : Fx) : Sp := fun vs H Q E => ∃ ds m G S, ds.length = n ∧ RpL K m G vs ds ∧ Sr K T m G S H ∧ Wants (F ds S) (PostE K T m G H Q) (PostXE K T E m G H)
theorem spF_len {K : PySem.W.Frag} {T : List (Addr × Str)} {n : Nat} {F : Fx} {vs : List V} {H : Hp} {Q : VK} {E : XK} (h : spF K T n F vs H Q E) : vs.length = n := by
  obtain ⟨ds, m, G, S, h1, h2, _⟩ := h
  rw [h2.length, h1]
def runF (N : Nat) (s : Sx) : Fx := fun ds S => match s (ds.map some ++ List.replicate (N - ds.length) none) S with
  | .ok (.rt d, _, S') => .ok (d, S')
  | .ok (.nx, _, S') => .ok (.non, S')
  | .ok _ => .stuck
  | .exc c S' => .exc c S'
  | .stuck => .stuck
section
variable {P : Program} {w : World} {K : PySem.W.Frag} {T : List (Addr × Str)} {mg : Str → Option Value} {base : Heap}
theorem er_start {m : List Addr} {G : Hp} {vs : List V} {ds : List D} (N : List Str) (r : RpL K m G vs ds) : Er K m G (L2.start N vs) (ds.map some ++ List.replicate (N.length - ds.length) none) := by
  unfold L2.start
  rw [r.length]
  refine ⟨by simp [r.length], fun i d h => ?_⟩
  by_cases hi : i < ds.length
  · rw [List.getElem?_append_left (by simpa using hi), List.getElem?_map] at h
    cases e : ds[i]? with
    | none => rw [e] at h; cases h
    | some d' =>
      rw [e] at h; cases h
      obtain ⟨v, e1, r1⟩ := r.get e
      refine ⟨v, ?_, r1⟩
      rw [List.getElem?_append_left (by rw [List.length_map, r.length]; exact hi), List.getElem?_map, e1]
      rfl
  · rw [List.getElem?_append_right (by simpa using hi), List.getElem?_replicate] at h
    split at h <;> cases h
/-- the body's reading, as the promise asks -/
theorem run_want {N : Nat} {s : Sx} {ds : List D} {S : Store} {σ : St} {m : List Addr} {G H : Hp} {Q : VK} {E : XK} (hh : Here K T σ (ds.map some ++ List.replicate (N - ds.length) none) m G S H)
    (h : Wants (runF N s ds S) (PostE K T m G H Q) (PostXE K T E m G H)) : tSt K T (fun cls d _ H => E cls d H) s { nx := fun _ H' => Q .non H', rt := Q } σ H := by
  refine ⟨_, m, G, S, hh, ?_⟩
  unfold runF at h
  cases e : s (ds.map some ++ List.replicate (N - ds.length) none) S with
  | stuck => rw [e] at h; exact h
  | exc c S' => rw [e] at h; exact fun σ' m' G' H' st sr => h m' G' H' st sr
  | ok r =>
    obtain ⟨fl, ρ', S'⟩ := r
    rw [e] at h
    cases fl with
    | nx => exact fun σ' m' G' H' st hh' => h .non m' G' H' st hh'.2 .non
    | rt d => exact h
    | bk => exact h.elim
    | ct => exact h.elim
/-! ### what is left behind a def that keeps to itself -/
mutual
def D.under (n : Nat) : D → Bool
  | .tup ds => D.unders n ds
  | .lst ds => D.unders n ds
  | .frz ds => D.unders n ds
  | .dct kvs => D.underk n kvs
  | .loc k => decide (k < n)
  | _ => true
def D.unders (n : Nat) : List D → Bool
  | [] => true
  | d :: ds => D.under n d && D.unders n ds
def D.underk (n : Nat) : List (Key × D) → Bool
  | [] => true
  | (_, d) :: ds => D.under n d && D.underk n ds
end
mutual
theorem Rp.under {m : List Addr} {G : Hp} : ∀ {v : V} {d : D}, Rp K m G v d → D.under m.length d = true
  | _, .non, _ => by simp [D.under]
  | _, .bl _, _ => by simp [D.under]
  | _, .int _, _ => by simp [D.under]
  | _, .str _, _ => by simp [D.under]
  | _, .tup ds, h => by
    cases h with
    | tup h1 h2 => simp only [D.under]; exact RpL.under h2
  | _, .lst ds, h => by
    cases h with
    | lst h1 h2 => simp only [D.under]; exact RpL.under h2
  | _, .frz ds, h => by
    cases h with
    | frz h1 h2 => simp only [D.under]; exact RpL.under h2
  | _, .dct ds, h => by
    cases h with
    | dct h1 h2 => simp only [D.under]; exact RpK.under h2
  | _, .loc n, h => by
    cases h with
    | loc h1 => simp only [D.under, decide_eq_true_eq]; exact (List.getElem?_eq_some_iff.mp h1).1
  | _, .xc _ _, _ => by simp [D.under]
theorem RpL.under {m : List Addr} {G : Hp} : ∀ {v : List V} {d : List D}, RpL K m G v d → D.unders m.length d = true
  | _, [], _ => by simp [D.unders]
  | _, d :: ds, h => by
    cases h with
    | cons h1 h2 => simp only [D.unders, Bool.and_eq_true]; exact ⟨Rp.under h1, RpL.under h2⟩
theorem RpK.under {m : List Addr} {G : Hp} : ∀ {v : List (Key × V)} {d : List (Key × D)}, RpK K m G v d → D.underk m.length d = true
  | _, [], _ => by simp [D.underk]
  | _, (k, d) :: ds, h => by
    cases h with
    | cons h1 h2 => simp only [D.underk, Bool.and_eq_true]; exact ⟨Rp.under h1, RpK.under h2⟩
end
mutual
theorem Rp.cut {m : List Addr} {G : Hp} (n : Nat) : ∀ {v : V} {d : D}, Rp K m G v d → D.under n d = true → Rp K (m.take n) G v d
  | _, .non, h, _ => by cases h; exact .non
  | _, .bl _, h, _ => by cases h; exact .bl _
  | _, .int _, h, _ => by cases h; exact .int _
  | _, .str _, h, _ => by cases h; exact .str _
  | _, .tup ds, h, b => by
    cases h with
    | tup h1 h2 => exact .tup h1 (RpL.cut n h2 (by simpa only [D.under] using b))
  | _, .lst ds, h, b => by
    cases h with
    | lst h1 h2 => exact .lst h1 (RpL.cut n h2 (by simpa only [D.under] using b))
  | _, .frz ds, h, b => by
    cases h with
    | frz h1 h2 => exact .frz h1 (RpL.cut n h2 (by simpa only [D.under] using b))
  | _, .dct ds, h, b => by
    cases h with
    | dct h1 h2 => exact .dct h1 (RpK.cut n h2 (by simpa only [D.under] using b))
  | _, .loc k, h, b => by
    cases h with
    | loc h1 =>
      have hk : k < n := by simpa [D.under] using b
      exact .loc (by rw [List.getElem?_take_of_lt hk]; exact h1)
  | _, .xc _ _, h, _ => by cases h; exact .xc _ _
theorem RpL.cut {m : List Addr} {G : Hp} (n : Nat) : ∀ {v : List V} {d : List D}, RpL K m G v d → D.unders n d = true → RpL K (m.take n) G v d
  | _, [], h, _ => by cases h; exact .nil
  | _, d :: ds, h, b => by
    cases h with
    | cons h1 h2 =>
      simp only [D.unders, Bool.and_eq_true] at b
      exact .cons (Rp.cut n h1 b.1) (RpL.cut n h2 b.2)
theorem RpK.cut {m : List Addr} {G : Hp} (n : Nat) : ∀ {v : List (Key × V)} {d : List (Key × D)}, RpK K m G v d → D.underk n d = true → RpK K (m.take n) G v d
  | _, [], h, _ => by cases h; exact .nil
  | _, (k, d) :: ds, h, b => by
    cases h with
    | cons h1 h2 =>
      simp only [D.underk, Bool.and_eq_true] at b
      exact .cons (Rp.cut n h1 b.1) (RpK.cut n h2 b.2)
end
theorem RpF.under {m : List Addr} {G : Hp} {v : List (Str × V)} {d : List (Str × D)} (h : RpF K m G v d) : ∀ p ∈ d, D.under m.length p.2 = true := by
  induction h with
  | nil => simp
  | cons h1 _ ih =>
    intro p hp
    rcases List.mem_cons.mp hp with rfl | hp
    · exact h1.under
    · exact ih p hp
theorem RpF.cut {m : List Addr} {G : Hp} (n : Nat) {v : List (Str × V)} {d : List (Str × D)} (h : RpF K m G v d) (b : ∀ p ∈ d, D.under n p.2 = true) : RpF K (m.take n) G v d := by
  induction h with
  | nil => exact .nil
  | cons h1 _ ih => exact .cons (h1.cut n (b _ List.mem_cons_self)) (ih fun p hp => b p (List.mem_cons_of_mem _ hp))
theorem take_pre {m m' : List Addr} (h : ∀ (n : Nat) (a : Addr), m[n]? = some a → m'[n]? = some a) : m'.take m.length = m := by
  apply List.ext_getElem?
  intro i
  by_cases hi : i < m.length
  · rw [List.getElem?_take_of_lt hi, h i m[i] (List.getElem?_eq_getElem hi), List.getElem?_eq_getElem hi]
  · rw [List.getElem?_take, if_neg hi, List.getElem?_eq_none (by omega)]
/-- the cells that came later are dropped -/
theorem Sr.cut {m m' : List Addr} {G G' H H' : Hp} {S g : Store} (sr : Sr K T m G S H) (st : Stp m G H m' G' H') (sr' : Sr K T m' G' (S ++ g) H') : Sr K T m G' S H' ∧ Stp m G H m G' H' := by
  have em := take_pre st.pre
  refine ⟨⟨sr'.fits, sr'.ntbl, sr.len, sr.nd, fun n c a h1 h2 => ?_, fun a ha => ?_, sr'.tabs⟩, ⟨fun _ _ h => h, st.ge, st.fresh, st.keep, st.live, fun _ h => .inl h⟩⟩
  · have hn : n < S.length := (List.getElem?_eq_some_iff.mp h1).1
    have q0 := sr.cell n c a h1 h2
    have q := sr'.cell n c a (by rw [List.getElem?_append_left hn]; exact h1) (st.pre n a h2)
    rw [← em]
    cases c with
    | lst ds =>
      obtain ⟨_, _, r0⟩ := q0
      obtain ⟨xs, e, r⟩ := q
      exact ⟨xs, e, r.cut _ r0.under⟩
    | dct ds =>
      obtain ⟨_, _, r0⟩ := q0
      obtain ⟨xs, e, r⟩ := q
      exact ⟨xs, e, r.cut _ r0.under⟩
    | ins C fs =>
      obtain ⟨_, _, _, r0⟩ := q0
      obtain ⟨dx, xs, e, r⟩ := q
      exact ⟨dx, xs, e, r.cut _ r0.under⟩
    | dead => exact q
  · obtain ⟨i, hi, e⟩ := List.mem_iff_getElem.mp ha
    exact sr'.nG a (List.mem_of_getElem? (st.pre i a (by rw [List.getElem?_eq_getElem hi, e])))
/-- an answer without the store -/
inductive Pr where
  | ok (d : D) | exc (c : Addr) | stuck
  deriving Inhabited
def Pr.res (p : Pr) (S : Store) : Res (D × Store) := match p with
  | .ok d => .ok (d, S) | .exc c => .exc c S | .stuck => .stuck
@[simp] theorem Pr.res_ok {d : D} {S : Store} : (Pr.ok d).res S = .ok (d, S) := nr rfl
@[simp] theorem Pr.res_exc {c : Addr} {S : Store} : (Pr.exc c).res S = .exc c S := nr rfl
@[simp] theorem Pr.res_stuck {S : Store} : (Pr.stuck).res S = .stuck := nr rfl
abbrev Px1 := List D → Pr
def liftP (f : Px1) : Fx := fun ds S => (f ds).res S
/-- a result that keeps the store, but for what is new -/
def Keeps (r : Res (D × Store)) (p : Pr) (S : Store) : Prop := match p with
  | .ok d => D.under S.length d = true ∧ ∃ g, r = .ok (d, S ++ g)
  | .exc c => ∃ g, r = .exc c (S ++ g)
  | .stuck => True
theorem fnP {f : Addr} {fd : FuncData} {ps : List Str} {k n : Nat} {F : Fx} {p : Px1} (h : FnOk P w K mg base (L2N.CX P w) k f fd ps (spF K T n F)) (hp : ∀ ds S, Keeps (F ds S) (p ds) S) : FnOk P w K mg base (L2N.CX P w) k f fd ps (spF K T n (liftP p)) := by
  refine h.imp fun vs H Q E q => ?_
  obtain ⟨ds, m, G, S, h1, h2, h3, h4⟩ := q
  refine ⟨ds, m, G, S, h1, h2, h3, ?_⟩
  have hk := hp ds S
  unfold liftP at h4
  cases e : p ds with
  | stuck => rw [e] at h4; exact h4.elim
  | exc c =>
    rw [e] at h4 hk
    obtain ⟨g, e2⟩ := hk
    rw [e2]
    intro m' G' H' st sr
    obtain ⟨a, b⟩ := h3.cut st sr
    exact h4 m G' H' b a
  | ok d =>
    rw [e] at h4 hk
    obtain ⟨hb, g, e2⟩ := hk
    rw [e2]
    intro v m' G' H' st sr rp
    obtain ⟨a, b⟩ := h3.cut st sr
    have em := take_pre st.pre
    refine h4 v m G' H' b a ?_
    have := rp.cut S.length hb
    rw [← h3.len, em] at this
    exact this
end

section
variable {X : Cx} {T : List (Addr × Str)} {W : WX} {a b c e tg : Expr} {es : List Expr} {f f1 f2 f3 : Ex} {g : Ax} {pos : Pos}
/-! ### calls -/
def exF (n : Nat) (F : Fx) (g : Ax) : Ex := fun ρ S => (g ρ S).bind fun r => if r.1.length = n then F r.1 r.2 else .stuck
theorem callF_imp {K : PySem.W.Frag} {n : Nat} {F : Fx} {σ : St} {H : Hp} {Q : VK} (h : tE K T W (exF n F g) σ H Q) : tA K T W g σ H (fun vs H1 => spF K T n F vs H1 Q (WE W σ)) := by
  obtain ⟨ρ, m, G, S, hh, h⟩ := h
  refine tA.bind hh h (fun _ _ q => q) fun xs S1 vs m1 G1 H1 st1 hh1 rs h1 => ?_
  have h1' := h1.nextE hh.2 st1
  dsimp only at h1'
  split at h1'
  case isFalse => exact h1'.elim
  case isTrue hl => exact ⟨xs, m1, G1, S1, hl, rs, hh1.2, h1'⟩
theorem de_call {x : Str} {p : Pos} {k n : Nat} {fa : Addr} {fd : FuncData} {ps : List Str} {F : Fx} (FO : FnOk X.prog X.w X.K X.mg X.base (L2N.CX X.prog X.w) k fa fd ps (spF X.K T n F)) (hr : Room k X.A) (hg : Gl X x) (hm : X.mg x = some (.ref fa)) (hk : PySem.W.keepIn X.K (.ref fa) = true) (hb : Binds X.K fd ps []) (tk : L2N.Takes X W)
    (ha : DA X T W (e :: es) g) (hdb : (x == ("__debug__" : Str)) = false := by decide) (he : starEach (e :: es) X.env = (false, eval e X.env) :: starEach es X.env := by rfl) (hpl : (backTo pos (starEach es X.env)).any (·.1) = false := by rfl) :
    DE X T W (.Call (.Name x p) (e :: es) [] pos) (exF n F g) := by
  refine ⟨PE.imp (pe_callSD (dvs := []) FO hr hg hm hk hb .nil (fun σ => L2N.passAt tk σ) ha.pa hdb he hpl) fun σ H Q h => ?_⟩
  have := callF_imp h
  simpa [tCallSD] using this
theorem passN {X : Cx} : Passes (L2N.CX X.prog X.w) X E0 := fun _ _ _ _ _ _ _ c => by
  obtain ⟨_, _, _, _, _, _, _, _, _, _, _, _, z⟩ := c
  exact (show False from z).elim
theorem de_call0 {x : Str} {p : Pos} {k : Nat} {fa : Addr} {fd : FuncData} {ps : List Str} {F : Fx} (FO : FnOk X.prog X.w X.K X.mg X.base (L2N.CX X.prog X.w) k fa fd ps (spF X.K T 0 F)) (hr : Room k X.A) (hg : Gl X x) (hm : X.mg x = some (.ref fa)) (hk : PySem.W.keepIn X.K (.ref fa) = true) (hb : Binds X.K fd ps [])
    (hF : ∀ S c S', F [] S ≠ .exc c S') (hdb : (x == ("__debug__" : Str)) = false := by decide) : DE X T W (.Call (.Name x p) [] [] pos) (fun ρ S => F [] S) := by
  refine ⟨PE.imp (pe_call0 (dvs := []) (E := E0) FO hr hg hm hk hb .nil passN hdb) fun σ H Q ⟨ρ, m, G, S, hh, h⟩ => ?_⟩
  refine ⟨[], m, G, S, rfl, .nil, hh.2, ?_⟩
  have h : Wants (F [] S) (PostE X.K T m G H Q) (PostX X.K T W σ m G H) := h
  cases q : F [] S with
  | ok r => rw [q] at h; exact h
  | exc c S' => exact absurd q (hF S c S')
  | stuck => rw [q] at h; exact h

/-! ### raise -/
def sxX (C : Addr) : Sx := fun _ S => .exc C S
theorem ds_raise {C : Addr} (hc : X.calm = true) (tk : L2N.Takes X W) (he : L2N.PMk X e (fun _ H Q => Q (.ref C) none H)) : DS X T W (.Raise (some e) none pos) (sxX C) :=
  ⟨PS.imp (L2N.ps_raise hc tk he) fun D σ H ⟨ρ, m, G, S, hh, h⟩ => h σ m G H .refl hh.2⟩

/-! ### methods of lists -/
theorem tE.tail {K : PySem.W.Frag} {σ : St} {H : Hp} {Q : VK} {Q' : VK} {f : Ex} (h : tE K T W f σ H Q) (i : ∀ v H, Q v H → Q' v H) : tE K T W f σ H Q' := by
  obtain ⟨ρ, m, G, S, hh, h⟩ := h
  exact ⟨ρ, m, G, S, hh, h.imp (fun r hr v m' G' H' st sr rp => i v H' (hr v m' G' H' st sr rp)) fun _ _ q => q⟩
/-- what a method asks, by data: the receiver, the arguments; the store may change -/
def MtD (K : PySem.W.Frag) (T : List (Addr × Str)) (ty : String) (r : V → List V → Hp → VK → Prop) (gm : Store → D → List D → Option (D × Store)) : Prop :=
  ∀ (m : List Addr) (G : Hp) (S : Store) (H : Hp) (x : D) (v : V) (xs : List D) (vs : List V) (q : D × Store) (Q : VK), Sr K T m G S H → Rp K m G v x → RpL K m G vs xs → gm S x xs = some q → PostE K T m G H Q q → r v vs H Q
def lft2 : Option (D × Store) → Res (D × Store)
  | some q => .ok q
  | none => .stuck
def exM (ok : Store → D → Bool) (gm : Store → D → List D → Option (D × Store)) (f : Ex) (g : Ax) : Ex := fun ρ S => (f ρ S).bind fun r => if ok r.2 r.1 = true then (g ρ r.2).bind fun q => lft2 (gm q.2 r.1 q.1) else .stuck
def isList (S : Store) (x : D) : Bool := (lstOf S x).isSome
def isStr (_ : Store) : D → Bool
  | .str _ => true
  | _ => false
theorem isList_ty {K : PySem.W.Frag} {m : List Addr} {G H : Hp} {S : Store} {v : V} {x : D} (sr : Sr K T m G S H) (r : Rp K m G v x) (h : isList S x = true) : tyV K "list" v H := by
  obtain ⟨ds, e⟩ := Option.isSome_iff_exists.mp h
  obtain ⟨a, xs, rfl, h1, _⟩ := lstOf_at sr r e
  exact .inl ⟨rfl, xs, h1⟩
theorem isStr_ty {K : PySem.W.Frag} {m : List Addr} {G H : Hp} {S : Store} {v : V} {x : D} (r : Rp K m G v x) (h : isStr S x = true) : tyV K "str" v H := by
  cases r <;> first | rfl | cases h
theorem meth_imp {K : PySem.W.Frag} {ty : String} {ok : Store → D → Bool} {r : V → List V → Hp → VK → Prop} {gm : Store → D → List D → Option (D × Store)} (hok : ∀ {m : List Addr} {G H : Hp} {S : Store} {v : V} {x : D}, Sr K T m G S H → Rp K m G v x → ok S x = true → tyV K ty v H)
    (hgm : MtD K T ty r gm) {σ : St} {H : Hp} {Q : VK} (h : tE K T W (exM ok gm f g) σ H Q) : tBM K ty r (tE K T W f) (tA K T W g) σ H Q := by
  obtain ⟨ρ, m, G, S, hh, h⟩ := h
  refine tE.bind hh h (fun _ _ q => q) fun x S1 v m1 G1 H1 st1 hh1 rx h1 => ?_
  have h1' := h1.nextE hh.2 st1
  dsimp only at h1'
  split at h1'
  case isFalse => exact h1'.elim
  case isTrue hx =>
    refine ⟨hok hh1.2 rx hx, tA.bind hh1 h1' (fun _ _ q => q) fun xs S2 vs m2 G2 H2 st2 hh2 rs h2 => ?_⟩
    have h2' := h2.nextE hh1.2 st2
    dsimp only at h2'
    cases e : gm S2 x xs with
    | none => rw [e] at h2'; exact h2'.elim
    | some q => rw [e] at h2'; exact hgm m2 G2 S2 H2 x v xs vs q Q hh2.2 (rx.mono st2) rs e h2'
/-- xs.append(e) of a cell -/
def gAppend (S : Store) (x : D) (xs : List D) : Option (D × Store) := match x, xs with
  | .loc n, [y] => match cellL S[n]? with
    | some ds => if ds.length < sizeLine then some (.non, S.set n (.lst (ds ++ [y]))) else none
    | none => none
  | _, _ => none
theorem PostE.write {K : PySem.W.Frag} {m : List Addr} {G H : Hp} {S : Store} {Q : VK} {n : Nat} {a : Addr} {c : Cell} {o o' : HO} {d : D} {v : V} (h : PostE K T m G H Q (d, S.set n c)) (sr : Sr K T m G S H) (ha : m[n]? = some a) (hp : H a = some o) (pl : Plain o) (hc : CellOk K m G (upd H a o') a c) (r : Rp K m G v d) : Q v (upd H a o') :=
  h v m G _ (Stp.write sr (List.mem_of_getElem? ha)) (sr.write ha hp pl hc) r
theorem mtd_append {K : PySem.W.Frag} : MtD K T "list" rAppend gAppend := by
  intro m G S H x v xs vs q Q sr rx rs e p
  unfold gAppend at e
  split at e
  · rename_i n y
    split at e
    · rename_i ds e1
      split at e
      case isFalse => cases e
      case isTrue hl =>
        cases e
        obtain ⟨u, rfl, ru⟩ := rs.one
        cases rx with
        | @loc a _ h1 =>
          obtain ⟨us, q1, q2⟩ := sr.cell n _ a (cellL_some e1) h1
          exact ⟨a, us, u, rfl, rfl, q1, by rw [q2.length]; exact hl, p.write sr h1 q1 plain_lst ⟨_, upd_same, q2.append (.cons ru .nil)⟩ .non⟩
    · cases e
  · cases e
/-- xs.extend(ys) of a cell -/
def gExtend (S : Store) (x : D) (xs : List D) : Option (D × Store) := match x, xs with
  | .loc n, [y] => match cellL S[n]?, lstX S y with
    | some ds, some es => if ds.length + es.length ≤ sizeLine then some (.non, S.set n (.lst (ds ++ es))) else none
    | _, _ => none
  | _, _ => none
theorem mtd_extend {K : PySem.W.Frag} : MtD K T "list" rExtend gExtend := by
  intro m G S H x v xs vs q Q sr rx rs e p
  unfold gExtend at e
  split at e
  · rename_i n y
    split at e
    · rename_i ds es e1 e2
      split at e
      case isFalse => cases e
      case isTrue hl =>
        cases e
        obtain ⟨u, rfl, ru⟩ := rs.one
        obtain ⟨b, zs, rfl, w1, w2⟩ := lstX_at sr ru e2
        cases rx with
        | @loc a _ h1 =>
          obtain ⟨us, q1, q2⟩ := sr.cell n _ a (cellL_some e1) h1
          exact ⟨a, b, us, zs, rfl, rfl, q1, w1, by rw [q2.length, w2.length]; exact hl, p.write sr h1 q1 plain_lst ⟨_, upd_same, q2.append w2⟩ .non⟩
    · cases e
  · cases e
/-- xs.pop(), xs.pop(i) of a cell -/
def gPop (S : Store) (x : D) (xs : List D) : Option (D × Store) := match x, xs with
  | .loc n, [] => match cellL S[n]? with
    | some ds => match ds[ds.length - 1]? with
      | some y => some (y, S.set n (.lst ds.dropLast))
      | none => none
    | none => none
  | _, _ => none
theorem RpL.dropLast {K : PySem.W.Frag} {m : List Addr} {G : Hp} {vs : List V} {ds : List D} (r : RpL K m G vs ds) : RpL K m G vs.dropLast ds.dropLast := by
  rw [List.dropLast_eq_take, List.dropLast_eq_take, r.length]
  exact r.take _
theorem RpL.eraseIdx {K : PySem.W.Frag} {m : List Addr} {G : Hp} {vs : List V} {ds : List D} (r : RpL K m G vs ds) (k : Nat) : RpL K m G (vs.eraseIdx k) (ds.eraseIdx k) := by
  rw [List.eraseIdx_eq_take_drop_succ, List.eraseIdx_eq_take_drop_succ]
  exact (r.take _).append (r.drop _)
theorem mtd_pop {K : PySem.W.Frag} : MtD K T "list" rPop gPop := by
  intro m G S H x v xs vs q Q sr rx rs e p
  unfold gPop at e
  split at e
  · rename_i n
    split at e
    · rename_i ds e1
      split at e
      · rename_i y e2
        cases e
        cases rs
        cases rx with
        | @loc a _ h1 =>
          obtain ⟨us, q1, q2⟩ := sr.cell n _ a (cellL_some e1) h1
          obtain ⟨u, w1, w2⟩ := q2.get e2
          rw [← q2.length] at w1
          exact ⟨a, us, u, rfl, rfl, q1, w1, p.write sr h1 q1 plain_lst ⟨_, upd_same, q2.dropLast⟩ w2⟩
      · cases e
    · cases e
  · cases e
def gPopAt (S : Store) (x : D) (xs : List D) : Option (D × Store) := match x, xs with
  | .loc n, [.int i] => match cellL S[n]? with
    | some ds => if 0 ≤ i ∧ i < 2 ^ 63 then match ds[i.toNat]? with
      | some y => some (y, S.set n (.lst (ds.eraseIdx i.toNat)))
      | none => none
      else none
    | none => none
  | _, _ => none
theorem mtd_popAt {K : PySem.W.Frag} : MtD K T "list" rPopAt gPopAt := by
  intro m G S H x v xs vs q Q sr rx rs e p
  unfold gPopAt at e
  split at e
  · rename_i n i
    split at e
    · rename_i ds e1
      split at e
      case isFalse => cases e
      case isTrue hi =>
        split at e
        · rename_i y e2
          cases e
          obtain ⟨w, rfl, rw'⟩ := rs.one
          cases rw'
          cases rx with
          | @loc a _ h1 =>
            obtain ⟨us, q1, q2⟩ := sr.cell n _ a (cellL_some e1) h1
            obtain ⟨u, w1, w2⟩ := q2.get e2
            have hlt : i.toNat < us.length := (List.getElem?_eq_some_iff.mp w1).1
            refine ⟨a, us, i, i.toNat, u, rfl, rfl, q1, by omega, hi.2, ?_, w1, p.write sr h1 q1 plain_lst ⟨_, upd_same, q2.eraseIdx _⟩ w2⟩
            have := (ixN_seq (n := us.length) (i := i) (j := i.toNat) (by unfold ixN; rw [if_pos hi.1, if_pos (by omega)])).1
            exact this
        · cases e
    · cases e
  · cases e
def gClear (S : Store) (x : D) (xs : List D) : Option (D × Store) := match x, xs with
  | .loc n, [] => match cellL S[n]? with
    | some _ => some (.non, S.set n (.lst []))
    | none => none
  | _, _ => none
theorem mtd_clear {K : PySem.W.Frag} : MtD K T "list" rClear gClear := by
  intro m G S H x v xs vs q Q sr rx rs e p
  unfold gClear at e
  split at e
  · rename_i n
    split at e
    · rename_i ds e1
      cases e
      cases rs
      cases rx with
      | @loc a _ h1 =>
        obtain ⟨us, q1, q2⟩ := sr.cell n _ a (cellL_some e1) h1
        exact ⟨a, us, rfl, rfl, q1, p.write sr h1 q1 plain_lst ⟨_, upd_same, .nil⟩ .non⟩
    · cases e
  · cases e
end
end DL

/-! DL8: methods of built-in types, fields, stores by place, loops over dicts. -/
namespace DL
open PySem PySem.Spec L2

section
variable {X : Cx} {T : List (Addr × Str)} {W : WX} {a b c e o tg value : Expr} {es : List Expr} {f f1 f2 f3 : Ex} {g : Ax} {pos apos cpos : Pos}
theorem de_bmL {id : String} {name : Str} {r : V → List V → Hp → VK → Prop} {gm : Store → D → List D → Option (D × Store)} (slot : Slot "list" name id) (hty : typeOf (.builtin id) = pure (.type "method_descriptor")) (hm : MtR X id r) (hgm : MtD X.K T "list" r gm) (ho : DE X T W o f) (ha : DA X T W (e :: es) g)
    (hbase : attributeBase o name X.env (eval o X.env) = eval o X.env := by rfl)
    (hfew : ((backTo cpos (starEach (e :: es) X.env)).all (fun x => !x.1) && (backToKw cpos (keywordEach [] X.env)).all (fun x => x.1.isSome)
      && decide ((e :: es).length + ([] : List Keyword).length + (if ([] : List Keyword).isEmpty then 0 else 1) < 30)) = true := by rfl)
    (hline : (apos.endLine == cpos.line) = true := by rfl) (hs : starEach (e :: es) X.env = (false, eval e X.env) :: starEach es X.env := by rfl) (hplain : (backTo cpos (starEach es X.env)).any (·.1) = false := by rfl) :
    DE X T W (.Call (.Attribute o name apos) (e :: es) [] cpos) (exM isList gm f g) :=
  ⟨PE.imp (pe_bm PySem.F.plainAttrs_list slot hty hm ho.pe ha.pa hbase hfew hline hs hplain) fun σ H Q h => meth_imp (fun sr r h => isList_ty sr r h) hgm h⟩
def exM0 (ok : Store → D → Bool) (gm : Store → D → List D → Option (D × Store)) (f : Ex) : Ex := fun ρ S => (f ρ S).bind fun r => if ok r.2 r.1 = true then lft2 (gm r.2 r.1 []) else .stuck
theorem de_bmL0 {id : String} {name : Str} {r : V → List V → Hp → VK → Prop} {gm : Store → D → List D → Option (D × Store)} (slot : Slot "list" name id) (hty : typeOf (.builtin id) = pure (.type "method_descriptor")) (hm : MtR X id r) (hgm : MtD X.K T "list" r gm) (ho : DE X T W o f)
    (hbase : attributeBase o name X.env (eval o X.env) = eval o X.env := by rfl) (hline : (apos.endLine == cpos.line) = true := by rfl) : DE X T W (.Call (.Attribute o name apos) [] [] cpos) (exM0 isList gm f) := by
  refine ⟨PE.imp (pe_bm0 PySem.F.plainAttrs_list slot hty hm ho.pe hbase hline) fun σ H Q ⟨ρ, m, G, S, hh, h⟩ => ?_⟩
  refine tE.bind hh h (fun _ _ q => q) fun x S1 v m1 G1 H1 st1 hh1 rx h1 => ?_
  have h1' := h1.nextE hh.2 st1
  dsimp only at h1'
  split at h1'
  case isFalse => exact h1'.elim
  case isTrue hx =>
    refine ⟨isList_ty hh1.2 rx hx, ?_⟩
    cases e : gm S1 x [] with
    | none => rw [e] at h1'; exact h1'.elim
    | some q => rw [e] at h1'; exact hgm m1 G1 S1 H1 x v [] [] q Q hh1.2 rx .nil e h1'
theorem de_append (ho : DE X T W o f) (ha : DA X T W [e] g) (hbase : attributeBase o "append" X.env (eval o X.env) = eval o X.env := by rfl)
    (hfew : ((backTo cpos (starEach [e] X.env)).all (fun x => !x.1) && (backToKw cpos (keywordEach [] X.env)).all (fun x => x.1.isSome)
      && decide (([e] : List Expr).length + ([] : List Keyword).length + (if ([] : List Keyword).isEmpty then 0 else 1) < 30)) = true := by rfl)
    (hline : (apos.endLine == cpos.line) = true := by rfl) (hs : starEach [e] X.env = [(false, eval e X.env)] := by rfl) : DE X T W (.Call (.Attribute o "append" apos) [e] [] cpos) (exM isList gAppend f g) :=
  de_bmL PySem.F.slot_list_append PySem.F.type_list_append mt_append mtd_append ho ha hbase hfew hline hs (by rfl)
theorem de_extend (ho : DE X T W o f) (ha : DA X T W [e] g) (hbase : attributeBase o "extend" X.env (eval o X.env) = eval o X.env := by rfl)
    (hfew : ((backTo cpos (starEach [e] X.env)).all (fun x => !x.1) && (backToKw cpos (keywordEach [] X.env)).all (fun x => x.1.isSome)
      && decide (([e] : List Expr).length + ([] : List Keyword).length + (if ([] : List Keyword).isEmpty then 0 else 1) < 30)) = true := by rfl)
    (hline : (apos.endLine == cpos.line) = true := by rfl) (hs : starEach [e] X.env = [(false, eval e X.env)] := by rfl) : DE X T W (.Call (.Attribute o "extend" apos) [e] [] cpos) (exM isList gExtend f g) :=
  de_bmL PySem.F.slot_list_extend PySem.F.type_list_extend mt_extend mtd_extend ho ha hbase hfew hline hs (by rfl)
theorem de_popAt (ho : DE X T W o f) (ha : DA X T W [e] g) (hbase : attributeBase o "pop" X.env (eval o X.env) = eval o X.env := by rfl)
    (hfew : ((backTo cpos (starEach [e] X.env)).all (fun x => !x.1) && (backToKw cpos (keywordEach [] X.env)).all (fun x => x.1.isSome)
      && decide (([e] : List Expr).length + ([] : List Keyword).length + (if ([] : List Keyword).isEmpty then 0 else 1) < 30)) = true := by rfl)
    (hline : (apos.endLine == cpos.line) = true := by rfl) (hs : starEach [e] X.env = [(false, eval e X.env)] := by rfl) : DE X T W (.Call (.Attribute o "pop" apos) [e] [] cpos) (exM isList gPopAt f g) :=
  de_bmL PySem.F.slot_list_pop PySem.F.type_list_pop mt_popAt mtd_popAt ho ha hbase hfew hline hs (by rfl)
theorem de_pop (ho : DE X T W o f) (hbase : attributeBase o "pop" X.env (eval o X.env) = eval o X.env := by rfl) (hline : (apos.endLine == cpos.line) = true := by rfl) : DE X T W (.Call (.Attribute o "pop" apos) [] [] cpos) (exM0 isList gPop f) :=
  de_bmL0 PySem.F.slot_list_pop PySem.F.type_list_pop mt_pop mtd_pop ho hbase hline
theorem de_clear (ho : DE X T W o f) (hbase : attributeBase o "clear" X.env (eval o X.env) = eval o X.env := by rfl) (hline : (apos.endLine == cpos.line) = true := by rfl) : DE X T W (.Call (.Attribute o "clear" apos) [] [] cpos) (exM0 isList gClear f) :=
  de_bmL0 PySem.F.slot_list_clear PySem.F.type_list_clear mt_clear mtd_clear ho hbase hline

/-! ### texts -/
def exS1 (gs : Store → D → D → Option D) (f1 f2 : Ex) : Ex := fun ρ S => (f1 ρ S).bind fun r => if isStr r.2 r.1 = true then (f2 ρ r.2).bind fun q => lft q.2 (gs q.2 r.1 q.1) else .stuck
theorem m1_imp {K : PySem.W.Frag} {r : V → List V → Hp → VK → Prop} {gs : Store → D → D → Option D} (hg : OpD K T (fun x y H Q => r x [y] H Q) gs) {σ : St} {H : Hp} {Q : VK} (h : tE K T W (exS1 gs f1 f2) σ H Q) : tM1 r (tE K T W f1) (tE K T W f2) σ H Q := by
  obtain ⟨ρ, m, G, S, hh, h⟩ := h
  refine tE.bind hh h (fun _ _ q => q) fun x S1 v m1 G1 H1 st1 hh1 rx h1 => ?_
  have h1' := h1.nextE hh.2 st1
  dsimp only at h1'
  split at h1'
  case isFalse => exact h1'.elim
  case isTrue hx =>
    refine ⟨?_, tE.bind hh1 h1' (fun _ _ q => q) fun y S2 u m2 G2 H2 st2 hh2 ry h2 => ?_⟩
    · cases rx <;> first | exact ⟨_, rfl⟩ | cases hx
    · obtain ⟨d, e, p⟩ := lft_want (h2.nextE hh1.2 st2)
      exact hg m2 G2 S2 H2 x y v u d Q hh2.2 (rx.mono st2) ry e p
def gSplit (S : Store) : D → D → Option D
  | .str a, .str b => if (b.length == 0) = false ∧ a.length + 2 ≤ sizeLine then some (.lst ((Txt.split a b).map .str)) else none
  | _, _ => none
theorem de_split (ho : DE X T W o f1) (ha : DE X T W e f2) (hs : starEach [e] X.env = [(false, eval e X.env)] := by rfl) (hbase : attributeBase o "split" X.env (eval o X.env) = eval o X.env := by rfl) (hline : (apos.endLine == cpos.line) = true := by rfl) :
    DE X T W (.Call (.Attribute o "split" apos) [e] [] cpos) (exS1 gSplit f1 f2) := by
  refine ⟨PE.imp (pe_split ho.pe ha.pe hs hbase hline) fun σ H Q h => m1_imp (fun m G S H x y v u d Q sr rx ry e p => ?_) h⟩
  unfold gSplit at e
  split at e
  · split at e
    case isFalse => cases e
    case isTrue hl =>
      cases e
      cases rx; cases ry
      exact ⟨_, _, rfl, rfl, hl.1, hl.2, fun p0 np => p.alloc sr np (fun _ z => by cases z) (.lst upd_same (rp_strs _))⟩
  · cases e
def gJoin (S : Store) : D → D → Option D
  | .str a, y => ((seqOf S y).bind strsOf).bind fun ys => if (ys.map (·.length)).sum + ys.length * a.length ≤ 16777216 then some (.str (Txt.join a ys)) else none
  | _, _ => none
theorem de_join (ho : DE X T W o f1) (ha : DE X T W e f2) (hs : starEach [e] X.env = [(false, eval e X.env)] := by rfl) (hbase : attributeBase o "join" X.env (eval o X.env) = eval o X.env := by rfl) (hline : (apos.endLine == cpos.line) = true := by rfl) :
    DE X T W (.Call (.Attribute o "join" apos) [e] [] cpos) (exS1 gJoin f1 f2) := by
  refine ⟨PE.imp (pe_join ho.pe ha.pe hs hbase hline) fun σ H Q h => m1_imp (fun m G S H x y v u d Q sr rx ry e p => ?_) h⟩
  unfold gJoin at e
  split at e
  · rename_i a
    cases rx
    cases e1 : seqOf S y with
    | none => rw [e1] at e; cases e
    | some ds =>
      rw [e1] at e
      cases e2 : strsOf ds with
      | none => rw [show (some ds).bind strsOf = strsOf ds from rfl, e2] at e; cases e
      | some ys =>
        rw [show (some ds).bind strsOf = strsOf ds from rfl, e2] at e
        have e : (if (ys.map (·.length)).sum + ys.length * a.length ≤ 16777216 then some (D.str (Txt.join a ys)) else none) = some d := e
        split at e
        case isFalse => cases e
        case isTrue hl =>
          cases e
          obtain ⟨p0, xs, rfl, h1, h2⟩ := seqOf_at sr ry e1
          rw [strsOf_rp h2 e2] at h1
          exact ⟨a, p0, ys, rfl, rfl, h1, hl, p.same sr (.str _)⟩
  · cases e

/-! ### stores by place -/
def gxSub (fo fi : Ex) (gs : Store → D → D → D → Option Store) (f : Ex) : Sx := fun ρ S => (f ρ S).bind fun r => (fo ρ r.2).bind fun o => (fi ρ o.2).bind fun i => match gs i.2 o.1 i.1 r.1 with
  | some S' => .ok (.nx, ρ, S')
  | none => .stuck
def gSetL (S : Store) (x i y : D) : Option Store := match x, i with
  | .loc n, .int i => match cellL S[n]? with
    | some ds => (ixN ds.length i).map fun j => S.set n (.lst (ds.set j y))
    | none => none
  | _, _ => none
theorem PostS.write {K : PySem.W.Frag} {m : List Addr} {G H : Hp} {S : Store} {D : Ends} {σ : St} {ρ : DEnv} {n : Nat} {a : Addr} {c : Cell} {o o' : HO} (h : PostS K T m G H D (.nx, ρ, S.set n c)) (hh : Here K T σ ρ m G S H) (ha : m[n]? = some a) (hp : H a = some o) (pl : Plain o) (hc : CellOk K m G (upd H a o') a c) : D.nx σ (upd H a o') :=
  h σ m G _ (Stp.write hh.2 (List.mem_of_getElem? ha)) ⟨hh.1, hh.2.write ha hp pl hc⟩
/-- xs[i] = e of a cell -/
theorem ds_setL {i : Expr} {fo fi : Ex} {p2 : Pos} (hv : DE X T W value f) (ho : DE X T W o fo) (hi : DE X T W i fi) (hs : swapsWithSole [.Subscript o i p2] value pos.line X.env = pure false := by rfl) (hw : swappedStores [.Subscript o i p2] value X.env = pure none := by rfl)
    (h1 : (assignEach [.Subscript o i p2] X.env).map (·.2) = [assign (.Subscript o i p2) X.env] := by rfl) (ha : ∀ v, assign (.Subscript o i p2) X.env v = (do
      let ov ← holding [v] (eval o X.env)
      let iv ← holding [v, ov] (eval i X.env)
      standAt p2
      holding [v, ov, iv] (setItem ov iv v)
      release [v, ov, iv] []) := by intro _; rfl) : DS X T W (.Assign [.Subscript o i p2] value pos) (gxSub fo fi gSetL f) := by
  refine ⟨PS.imp (ps_asg hv.pe (pg_sub ho.pe hi.pe set_list ha) hs hw h1) fun D σ H ⟨ρ, m, G, S, hh, h⟩ => ?_⟩
  refine tE.bind hh h (fun _ _ q => q.at) fun y S1 w m1 G1 H1 st1 hh1 ry h1 => ?_
  refine tE.bind hh1 (h1.nextS hh.2 st1) (fun _ _ q => q.at) fun x S2 v m2 G2 H2 st2 hh2 rx h2 => ?_
  refine tE.bind hh2 (h2.nextS hh1.2 st2) (fun _ _ q => q.at) fun i S3 u m3 G3 H3 st3 hh3 ri h3 => ?_
  have h3' := h3.nextS hh2.2 st3
  have rx3 := rx.mono st3
  have ry3 := (ry.mono st2).mono st3
  cases e : gSetL S3 x i y with
  | none => dsimp only at h3'; rw [e] at h3'; exact h3'.elim
  | some S' =>
    dsimp only at h3'; rw [e] at h3'
    unfold gSetL at e
    split at e
    · rename_i n i
      split at e
      · rename_i ds e1
        cases e2 : ixN ds.length i with
        | none => rw [e2] at e; cases e
        | some j =>
          rw [e2] at e; cases e
          cases ri
          cases rx3 with
          | @loc a _ k1 =>
            obtain ⟨us, q1, q2⟩ := hh3.2.cell n _ a (cellL_some e1) k1
            exact ⟨a, us, i, j, rfl, rfl, q1, by rw [q2.length]; exact e2, PostS.write h3' hh3 k1 q1 plain_lst ⟨_, upd_same, q2.set j ry3⟩⟩
      · cases e
    · cases e
def gSetK (S : Store) (x i y : D) : Option Store := match x with
  | .loc n => match cellK S[n]?, kOf i with
    | some kvs, some k => if kvs.length < sizeLine then some (S.set n (.dct (putD kvs k y))) else none
    | _, _ => none
  | _ => none
/-- d[k] = e of a cell -/
theorem ds_setK {i : Expr} {fo fi : Ex} {p2 : Pos} (hu : X.A.units + 1 < cLine) (hv : DE X T W value f) (ho : DE X T W o fo) (hi : DE X T W i fi) (hs : swapsWith value (some (.Subscript o i p2)) pos.line X.env = pure false := by rfl) :
    DS X T W (.Assign [.Subscript o i p2] value pos) (gxSub fo fi gSetK f) := by
  refine ⟨PS.imp (ps_dput hu ho.pe hi.pe hv.pe hs) fun D σ H ⟨ρ, m, G, S, hh, h⟩ => ?_⟩
  refine tE.bind hh h (fun _ _ q => q.at) fun y S1 w m1 G1 H1 st1 hh1 ry h1 => ?_
  refine tE.bind hh1 (h1.nextS hh.2 st1) (fun _ _ q => q.at) fun x S2 v m2 G2 H2 st2 hh2 rx h2 => ?_
  refine tE.bind hh2 (h2.nextS hh1.2 st2) (fun _ _ q => q.at) fun i S3 u m3 G3 H3 st3 hh3 ri h3 => ?_
  have h3' := h3.nextS hh2.2 st3
  have rx3 := rx.mono st3
  have ry3 := (ry.mono st2).mono st3
  cases e : gSetK S3 x i y with
  | none => dsimp only at h3'; rw [e] at h3'; exact h3'.elim
  | some S' =>
    dsimp only at h3'; rw [e] at h3'
    unfold gSetK at e
    split at e
    · rename_i n
      split at e
      · rename_i kvs k e1 e2
        split at e
        case isFalse => cases e
        case isTrue hl =>
          cases e
          have hk := kOf_rp ri e2
          subst hk
          cases rx3 with
          | @loc a _ k1 =>
            obtain ⟨us, q1, q2⟩ := hh3.2.cell n _ a (cellK_some e1) k1
            exact ⟨a, _, rfl, DPut.k q1 (by rw [q2.length]; exact hl), PostS.write h3' hh3 k1 q1 plain_dK ⟨_, upd_same, put_rp q2 k ry3⟩⟩
      · cases e
    · cases e

/-! ### fields -/
def fldOf (S : Store) (x : D) (C : Addr) (n : Str) : Option D := match x with
  | .loc k => match S[k]? with
    | some (.ins C' fs) => if C' = C then fs.lookup n else none
    | _ => none
  | _ => none
theorem rpf_lookup {K : PySem.W.Frag} {m : List Addr} {G : Hp} {vs : List (Str × V)} {ds : List (Str × D)} (r : RpF K m G vs ds) (n : Str) : (vs.lookup n = none ∧ ds.lookup n = none) ∨ ∃ v d, vs.lookup n = some v ∧ ds.lookup n = some d ∧ Rp K m G v d := by
  induction r with
  | nil => exact .inl ⟨rfl, rfl⟩
  | @cons k v vs d ds h1 _ ih =>
    cases hb : n == k with
    | true => exact .inr ⟨v, d, by simp [List.lookup_cons, hb], by simp [List.lookup_cons, hb], h1⟩
    | false => simpa [List.lookup_cons, hb] using ih
theorem RpF.length {K : PySem.W.Frag} {m : List Addr} {G : Hp} {vs : List (Str × V)} {ds : List (Str × D)} (r : RpF K m G vs ds) : vs.length = ds.length := by
  induction r with
  | nil => rfl
  | cons _ _ ih => simp [ih]
theorem de_fld {C : Addr} {n : Str} (hC : Cls X.K C) (hn : NoAttr X.K C n) (ho : DE X T W o f) (hb : attributeBase o n X.env (eval o X.env) = eval o X.env := by rfl) : DE X T W (.Attribute o n pos) (ex1S (fun S x => fldOf S x C n) f) := by
  refine ⟨PE.imp (pe_fld ho.pe hb) fun σ H Q ⟨ρ, m, G, S, hh, h⟩ => ?_⟩
  refine tE.bind hh h (fun _ _ q => q) fun x S1 v m1 G1 H1 st1 hh1 rx h1 => ?_
  obtain ⟨d, e, p⟩ := lft_want (h1.nextE hh.2 st1)
  dsimp only at e
  unfold fldOf at e
  split at e
  · rename_i k
    split at e
    · rename_i C' fs e1
      split at e
      case isFalse => cases e
      case isTrue hc =>
        subst hc
        cases rx with
        | @loc a _ k1 =>
          obtain ⟨dx, vs, q1, q2⟩ := hh1.2.cell k _ a e1 k1
          rcases rpf_lookup q2 n with ⟨z1, z2⟩ | ⟨w, d', z1, z2, z3⟩
          · rw [z2] at e; cases e
          · rw [z2] at e; cases e
            exact ⟨a, C', dx, vs, w, rfl, q1, hC, hn, z1, p.same hh1.2 z3⟩
    · cases e
  · cases e
def putFD (n : Str) (d : D) : List (Str × D) → List (Str × D)
  | [] => [(n, d)]
  | (k, x) :: r => if k = n then (k, d) :: r else (k, x) :: putFD n d r
def gSetF (C : Addr) (n : Str) (S : Store) (x y : D) : Option Store := match x with
  | .loc k => match S[k]? with
    | some (.ins C' fs) => if C' = C ∧ fs.length < 1000 then some (S.set k (.ins C (putFD n y fs))) else none
    | _ => none
  | _ => none
def sxFld (C : Addr) (n : Str) (fo f : Ex) : Sx := fun ρ S => (f ρ S).bind fun r => (fo ρ r.2).bind fun q => match gSetF C n q.2 q.1 r.1 with
  | some S' => .ok (.nx, ρ, S')
  | none => .stuck
theorem putF_rp {K : PySem.W.Frag} {m : List Addr} {G : Hp} {vs : List (Str × V)} {ds : List (Str × D)} (r : RpF K m G vs ds) (n : Str) {v : V} {d : D} (q : Rp K m G v d) : RpF K m G (putF n v vs) (putFD n d ds) := by
  induction r with
  | nil => exact .cons q .nil
  | @cons k w vs d' ds h1 h2 ih =>
    unfold putF putFD
    by_cases e : k = n
    · rw [if_pos e, if_pos e]; exact .cons q h2
    · rw [if_neg e, if_neg e]; exact .cons h1 ih
theorem ds_fld {C : Addr} {n : Str} {fo : Ex} {p2 : Pos} (hC : Cls X.K C) (hn : NoAttr X.K C n) (hv : DE X T W value f) (ho : DE X T W o fo) (hs : swapsWith value (some (.Attribute o n p2)) pos.line X.env = pure false := by rfl) : DS X T W (.Assign [.Attribute o n p2] value pos) (sxFld C n fo f) := by
  refine ⟨PS.imp (ps_fld ho.pe hv.pe hs) fun D σ H ⟨ρ, m, G, S, hh, h⟩ => ?_⟩
  refine tE.bind hh h (fun _ _ q => q.at) fun y S1 w m1 G1 H1 st1 hh1 ry h1 => ?_
  refine tE.bind hh1 (h1.nextS hh.2 st1) (fun _ _ q => q.at) fun x S2 v m2 G2 H2 st2 hh2 rx h2 => ?_
  have h2' := h2.nextS hh1.2 st2
  have ry2 := ry.mono st2
  cases e : gSetF C n S2 x y with
  | none => dsimp only at h2'; rw [e] at h2'; exact h2'.elim
  | some S' =>
    dsimp only at h2'; rw [e] at h2'
    unfold gSetF at e
    split at e
    · rename_i k
      split at e
      · rename_i C' fs e1
        split at e
        case isFalse => cases e
        case isTrue hc =>
          obtain ⟨rfl, hl⟩ := hc
          cases e
          cases rx with
          | @loc a _ k1 =>
            obtain ⟨dx, vs, q1, q2⟩ := hh2.2.cell k _ a e1 k1
            exact ⟨a, C', dx, vs, rfl, q1, hC, hn, by rw [q2.length]; exact hl, PostS.write h2' hh2 k1 q1 plain_ins ⟨dx, _, upd_same, putF_rp q2 n ry2⟩⟩
      · cases e
    · cases e

/-! ### methods of own classes, makings -/
def isIns (C : Addr) (S : Store) (m : Str) : D → Bool
  | .loc k => match S[k]? with
    | some (.ins C' fs) => C' == C && (fs.lookup m).isNone
    | _ => false
  | _ => false
theorem isIns_at {K : PySem.W.Frag} {mm : List Addr} {G H : Hp} {S : Store} {v : V} {x : D} {C : Addr} {n : Str} (sr : Sr K T mm G S H) (r : Rp K mm G v x) (h : isIns C S n x = true) : ∃ a dx fs, v = .ref a ∧ H a = some (.ins C dx fs) ∧ fs.lookup n = none := by
  unfold isIns at h
  split at h
  · rename_i k
    split at h
    · rename_i C' fs e1
      simp only [Bool.and_eq_true, beq_iff_eq, Option.isNone_iff_eq_none] at h
      obtain ⟨rfl, hl⟩ := h
      cases r with
      | @loc a _ k1 =>
        obtain ⟨dx, vs, q1, q2⟩ := sr.cell k _ a e1 k1
        refine ⟨a, dx, vs, rfl, q1, ?_⟩
        rcases rpf_lookup q2 n with ⟨z1, _⟩ | ⟨w, d', _, z2, _⟩
        · exact z1
        · rw [hl] at z2; cases z2
    · cases h
  · cases h
def exMeth (C : Addr) (n : Str) (k : Nat) (F : Fx) (fo : Ex) (g : Ax) : Ex := fun ρ S => (fo ρ S).bind fun r => if isIns C r.2 n r.1 = true then (g ρ r.2).bind fun q => if q.1.length + 1 = k then F (r.1 :: q.1) q.2 else .stuck else .stuck
def exMeth0 (C : Addr) (n : Str) (F : Fx) (fo : Ex) : Ex := fun ρ S => (fo ρ S).bind fun r => if isIns C r.2 n r.1 = true then F [r.1] r.2 else .stuck
/-- a method's call where what is raised is wished for at the caller's slots -/
def tMethS (C : Addr) (n : Str) (sp : Sp) (E : St → XK) (ta : TE) (t : TA) : TE := fun σ H Q => ta σ H fun x H1 => ∃ a dx fs, x = .ref a ∧ H1 a = some (.ins C dx fs) ∧ fs.lookup n = none ∧ t σ H1 fun vs H2 => sp (x :: vs) H2 Q (E σ)
theorem pe_methS {n : Str} {C fa : Addr} {fd : FuncData} {ps : List Str} {sp : Sp} {k : Nat} {E : St → XK} {ta : TE} {t : TA} {pl : Sem Bool} (he : PE X o ta) (c : Cls X.K C) (hm : Meth X.K C n fa) (F : FnOk X.prog X.w X.K X.mg X.base (L2N.CX X.prog X.w) k fa fd ps sp) (hr : Room k X.A) (hb : Binds X.K fd ps []) (hx : ∀ σ, PassesAt (L2N.CX X.prog X.w) X σ (E σ)) (ha : PA X (e :: es) t)
    (hst : starEach (e :: es) X.env = (false, eval e X.env) :: starEach es X.env := by rfl) (hpl : (backTo pos (starEach es X.env)).any (·.1) = false := by rfl)
    (ht : eval (.Call (.Attribute o n apos) (e :: es) [] pos) X.env = (do
      let ov ← eval o X.env
      standAt apos.atName
      let (f, first) ← holding [ov] (getMethod ov n pl)
      callWith pos f first (backTo pos (starEach (e :: es) X.env)) (backToKw pos (keywordEach [] X.env))) := by rfl) :
    PE X (.Call (.Attribute o n apos) (e :: es) [] pos) (tMethS C n sp E ta t) := by
  refine ⟨fun pins s σ H Q I h => ?_⟩
  refine PySem.W.methodCall_KW (pl := pl) (thn (he.run pins s σ H _ I h) fun u s1 ⟨x, H1, I1, rx, a, dx, fs, ex, ea, l, q⟩ => ?_) ht
  subst ex
  obtain rfl : u = Value.ref a := rx
  refine getmeth_ok I1 ea c hm l ?_
  refine PySem.W.callWith_K (first := [.ref a]) (h₀ := X.base) I.ok.mod.kin hm.kp (thn (ha.run pos pins s1 σ H1 _ I1 q) fun us s2 ⟨vs, H2, I2, r, q2⟩ => ⟨I2.kIn, ?_⟩) hst hpl
  exact run_fnSD (us := .ref a :: us) (vs := .ref a :: vs) (dvs := []) (ds := []) F hr hb .nil (hx σ) I2 (.cons rfl r) (by simpa using q2)
theorem pe_meth0S {n : Str} {C fa : Addr} {fd : FuncData} {ps : List Str} {sp : Sp} {k : Nat} {E : St → XK} {ta : TE} {pl : Sem Bool} (he : PE X o ta) (c : Cls X.K C) (hm : Meth X.K C n fa) (F : FnOk X.prog X.w X.K X.mg X.base (L2N.CX X.prog X.w) k fa fd ps sp) (hr : Room k X.A) (hb : Binds X.K fd ps []) (hx : ∀ σ, PassesAt (L2N.CX X.prog X.w) X σ (E σ))
    (ht : eval (.Call (.Attribute o n apos) [] [] pos) X.env = (do
      let ov ← eval o X.env
      standAt apos.atName
      let (f, first) ← holding [ov] (getMethod ov n pl)
      callWith pos f first (backTo pos (starEach [] X.env)) (backToKw pos (keywordEach [] X.env))) := by rfl) :
    PE X (.Call (.Attribute o n apos) [] [] pos) (tMethS C n sp E ta tNil) := by
  refine ⟨fun pins s σ H Q I h => ?_⟩
  refine PySem.W.methodCall_KW (pl := pl) (thn (he.run pins s σ H _ I h) fun u s1 ⟨x, H1, I1, rx, a, dx, fs, ex, ea, l, q⟩ => ?_) ht
  subst ex
  obtain rfl : u = Value.ref a := rx
  refine getmeth_ok I1 ea c hm l ?_
  exact PySem.W.callWith_K0 (first := [.ref a]) I1.kIn hm.kp (run_fnSD (us := [.ref a]) (vs := [.ref a]) (dvs := []) (ds := []) F hr hb .nil (hx σ) I1 (.cons rfl .nil) (by simpa [tNil] using q))
theorem de_meth {n : Str} {C fa : Addr} {fd : FuncData} {ps : List Str} {k j : Nat} {F : Fx} {fo : Ex} {pl : Sem Bool} (c : Cls X.K C) (hm : Meth X.K C n fa) (FO : FnOk X.prog X.w X.K X.mg X.base (L2N.CX X.prog X.w) k fa fd ps (spF X.K T j F)) (hr : Room k X.A) (hb : Binds X.K fd ps []) (tk : L2N.Takes X W) (ho : DE X T W o fo) (ha : DA X T W (e :: es) g)
    (hst : starEach (e :: es) X.env = (false, eval e X.env) :: starEach es X.env := by rfl) (hpl : (backTo pos (starEach es X.env)).any (·.1) = false := by rfl)
    (ht : eval (.Call (.Attribute o n apos) (e :: es) [] pos) X.env = (do
      let ov ← eval o X.env
      standAt apos.atName
      let (f, first) ← holding [ov] (getMethod ov n pl)
      callWith pos f first (backTo pos (starEach (e :: es) X.env)) (backToKw pos (keywordEach [] X.env))) := by rfl) : DE X T W (.Call (.Attribute o n apos) (e :: es) [] pos) (exMeth C n j F fo g) := by
  refine ⟨PE.imp (pe_methS (pl := pl) ho.pe c hm FO hr hb (fun σ => L2N.passAt tk σ) ha.pa hst hpl ht) fun σ H Q ⟨ρ, m, G, S, hh, h⟩ => ?_⟩
  refine tE.bind hh h (fun _ _ q => q) fun x S1 v m1 G1 H1 st1 hh1 rx h1 => ?_
  have h1' := h1.nextE hh.2 st1
  dsimp only at h1'
  split at h1'
  case isFalse => exact h1'.elim
  case isTrue hx =>
    obtain ⟨a, dx, fs, rfl, k1, k2⟩ := isIns_at hh1.2 rx hx
    refine ⟨a, dx, fs, rfl, k1, k2, tA.bind hh1 h1' (fun _ _ q => q) fun xs S2 vs m2 G2 H2 st2 hh2 rs h2 => ?_⟩
    have h2' := h2.nextE hh1.2 st2
    dsimp only at h2'
    split at h2'
    case isFalse => exact h2'.elim
    case isTrue hl => exact ⟨x :: xs, m2, G2, S2, by simpa using hl, .cons (rx.mono st2) rs, hh2.2, h2'⟩
theorem de_meth0 {n : Str} {C fa : Addr} {fd : FuncData} {ps : List Str} {k : Nat} {F : Fx} {fo : Ex} {pl : Sem Bool} (c : Cls X.K C) (hm : Meth X.K C n fa) (FO : FnOk X.prog X.w X.K X.mg X.base (L2N.CX X.prog X.w) k fa fd ps (spF X.K T 1 F)) (hr : Room k X.A) (hb : Binds X.K fd ps []) (tk : L2N.Takes X W) (ho : DE X T W o fo)
    (ht : eval (.Call (.Attribute o n apos) [] [] pos) X.env = (do
      let ov ← eval o X.env
      standAt apos.atName
      let (f, first) ← holding [ov] (getMethod ov n pl)
      callWith pos f first (backTo pos (starEach [] X.env)) (backToKw pos (keywordEach [] X.env))) := by rfl) : DE X T W (.Call (.Attribute o n apos) [] [] pos) (exMeth0 C n F fo) := by
  refine ⟨PE.imp (pe_meth0S (pl := pl) ho.pe c hm FO hr hb (fun σ => L2N.passAt tk σ) ht) fun σ H Q ⟨ρ, m, G, S, hh, h⟩ => ?_⟩
  refine tE.bind hh h (fun _ _ q => q) fun x S1 v m1 G1 H1 st1 hh1 rx h1 => ?_
  have h1' := h1.nextE hh.2 st1
  dsimp only at h1'
  split at h1'
  case isFalse => exact h1'.elim
  case isTrue hx =>
    obtain ⟨a, dx, fs, rfl, k1, k2⟩ := isIns_at hh1.2 rx hx
    exact ⟨a, dx, fs, rfl, k1, k2, [x], m1, G1, S1, rfl, .cons rx .nil, hh1.2, h1'⟩
/-- C(e, ..) -/
def exMake (C : Addr) (k : Nat) (F : Fx) (g : Ax) : Ex := fun ρ S => (g ρ S).bind fun r => if r.1.length + 1 = k then (F (.loc r.2.length :: r.1) (r.2 ++ [.ins C []])).bind fun q => match q.1 with
    | .non => .ok (.loc r.2.length, q.2)
    | _ => .stuck
  else .stuck
def tMakeS (C : Addr) (sp : Sp) (E : St → XK) (t : TA) : TE := fun σ H Q => t σ H fun vs H1 => ∀ x dx, H1 x = none → H1 dx = none → dx ≠ x → sp (.ref x :: vs) (upd (upd H1 dx (.own x)) x (.ins C dx [])) (fun v H2 => v = .non ∧ Q (.ref x) H2) (E σ)
theorem run_makeS {C fa : Addr} {fd : FuncData} {ps : List Str} {sp : Sp} {k : Nat} {E : XK} {pins : List (Addr × Obj)} {σ : St} {H : Hp} {s : Shared} {Q : VK} {us : List Value} {vs : List V} (M : Mk X.K C fa) (F : FnOk X.prog X.w X.K X.mg X.base (L2N.CX X.prog X.w) k fa fd ps sp) (hr : Room (k + 1) X.A) (hb : Binds X.K fd ps [])
    (hx : PassesAt (L2N.CX X.prog X.w) X σ E) (I : Inv X pins σ H s) (r : Vals vs us)
    (h : ∀ x dx, H x = none → H dx = none → dx ≠ x → sp (.ref x :: vs) (upd (upd H dx (.own x)) x (.ins C dx [])) (fun v H2 => v = .non ∧ Q (.ref x) H2) E) :
    wpAny (model X.prog X.w) X.A (call (.ref C) us) (EP X pins σ Q) X.xe s := by
  have hq := h (s.heap.objs.size + 1) s.heap.objs.size (I.hok.fresh (Nat.le_succ _)) (I.hok.fresh (Nat.le_refl _)) (Nat.ne_of_lt (Nat.lt_succ_self _))
  have I2 := Inv.made (C := C) I
  have r2 : Vals (V.ref (s.heap.objs.size + 1) :: vs) (Value.ref (s.heap.objs.size + 1) :: us) := .cons rfl r
  have hl : (Value.ref (s.heap.objs.size + 1) :: us).length = ps.length := by
    have e := r2.length
    rw [F.len _ _ _ _ hq] at e
    exact e.symm
  have hb2 := hb _ (Value.ref (s.heap.objs.size + 1) :: us) I2.kIn (by simpa using hl)
  rw [List.append_nil] at hb2
  refine wpAny_call (make_map (f := fa) I.kIn M.makes M.init (beq_iff_eq.mp M.fn) (codeAny_mono (F.run _ X.stack _ _ ⟨Value.ref (s.heap.objs.size + 1) :: us, []⟩ (Value.ref (s.heap.objs.size + 1) :: us) _ _ E (hr.make C us [])
    (I2.env0.make C us []) hb2 r2 hq) fun r s' hq' => ?_))
  cases r with
  | error e => exact hx pins _ _ e s' I2 hq'
  | ok fl =>
    cases fl with
    | ret u =>
      obtain ⟨v, H', I3, rv, ev, q3⟩ := I2.after hq'
      subst ev
      exact ⟨rv, ⟨V.ref (s.heap.objs.size + 1), H', I3, rfl, q3⟩⟩
    | next => exact False.elim hq'
    | brk => exact False.elim hq'
    | cont => exact False.elim hq'
theorem pe_makeS {x : Str} {p : Pos} {C fa : Addr} {fd : FuncData} {ps : List Str} {sp : Sp} {k : Nat} {E : St → XK} {t : TA} (M : Mk X.K C fa) (F : FnOk X.prog X.w X.K X.mg X.base (L2N.CX X.prog X.w) k fa fd ps sp) (hr : Room (k + 1) X.A) (hg : Gl X x) (hm : X.mg x = some (.ref C)) (hb : Binds X.K fd ps []) (hx : ∀ σ, PassesAt (L2N.CX X.prog X.w) X σ (E σ))
    (ha : PA X (e :: es) t) (hdb : (x == ("__debug__" : Str)) = false := by decide) (he : starEach (e :: es) X.env = (false, eval e X.env) :: starEach es X.env := by rfl) (hpl : (backTo pos (starEach es X.env)).any (·.1) = false := by rfl) :
    PE X (.Call (.Name x p) (e :: es) [] pos) (tMakeS C sp E t) := by
  refine ⟨fun pins s σ H Q I h => ?_⟩
  refine wpAny_Call_Name_kw (ld_glob I hg hm ?_ hdb)
  refine PySem.W.callWith_K (h₀ := X.base) I.ok.mod.kin M.kp (thn (ha.run pos pins s σ H _ I h) fun us s1 ⟨vs, H1, I1, r, q⟩ => ⟨I1.kIn, ?_⟩) he hpl
  exact run_makeS M F hr hb (hx σ) I1 r q
theorem de_make {x : Str} {p : Pos} {C fa : Addr} {fd : FuncData} {ps : List Str} {k j : Nat} {F : Fx} (M : Mk X.K C fa) (FO : FnOk X.prog X.w X.K X.mg X.base (L2N.CX X.prog X.w) k fa fd ps (spF X.K T j F)) (hr : Room (k + 1) X.A) (hg : Gl X x) (hm : X.mg x = some (.ref C)) (hb : Binds X.K fd ps []) (tk : L2N.Takes X W)
    (ha : DA X T W (e :: es) g) (hdb : (x == ("__debug__" : Str)) = false := by decide) (he : starEach (e :: es) X.env = (false, eval e X.env) :: starEach es X.env := by rfl) (hpl : (backTo pos (starEach es X.env)).any (·.1) = false := by rfl) :
    DE X T W (.Call (.Name x p) (e :: es) [] pos) (exMake C j F g) := by
  refine ⟨PE.imp (pe_makeS M FO hr hg hm hb (fun σ => L2N.passAt tk σ) ha.pa hdb he hpl) fun σ H Q ⟨ρ, m, G, S, hh, h⟩ => ?_⟩
  refine tA.bind hh h (fun _ _ q => q) fun xs S1 vs m1 G1 H1 st1 hh1 rs h1 => ?_
  have h1' := h1.nextE hh.2 st1
  dsimp only at h1'
  split at h1'
  case isFalse => exact h1'.elim
  case isTrue hl =>
    intro x dx nx ndx ne
    have nto : ∀ ps, (HO.own x : HO) ≠ .tbl ps := fun _ z => by cases z
    have nti : ∀ ps, (HO.ins C dx [] : HO) ≠ .tbl ps := fun _ z => by cases z
    have sr2 := hh1.2.hide ndx nto
    have nx2 : (upd H1 dx (.own x)) x = none := by rw [upd_ne ne.symm]; exact nx
    have st2 : Stp m1 G1 H1 m1 G1 (upd H1 dx (.own x)) := Stp.hide ndx
    have st3 : Stp m1 G1 (upd H1 dx (.own x)) (m1 ++ [x]) G1 (upd (upd H1 dx (.own x)) x (.ins C dx [])) := Stp.cell sr2 nx2
    have sr3 := sr2.newCell (cl := .ins C []) nx2 nti ⟨dx, [], upd_same, .nil⟩
    have st := st2.trans st3 hh1.2.fits
    have rl : Rp X.K (m1 ++ [x]) G1 (.ref x) (.loc S1.length) := .loc (by rw [← hh1.2.len, List.getElem?_append_right (Nat.le_refl _)]; simp)
    refine ⟨.loc S1.length :: xs, m1 ++ [x], G1, S1 ++ [.ins C []], by simpa using hl, .cons rl (rs.mono st), sr3, ?_⟩
    have hw := (Wants.bind (h1'.nextE hh1.2 st))
    refine hw.imp (fun r hr v m' G' H' st4 sr4 rp => ?_) fun _ _ q => q
    obtain ⟨d, S'⟩ := r
    cases d with
    | non =>
      cases rp
      exact ⟨rfl, hr _ m' G' H' st4 sr4 (rl.mono st4)⟩
    | _ => exact (show False from hr).elim

/-! ### a walk over a dict: it is locked meanwhile -/
def keysD (kvs : List (Key × D)) : List D := kvs.map fun p => match p.1 with
  | .inl i => .int i
  | .inr x => .str x
theorem keys_rp {K : PySem.W.Frag} {m m' : List Addr} {G G' : Hp} {ks : List (Key × V)} {kvs : List (Key × D)} (r : RpK K m G ks kvs) : RpL K m' G' (ks.map fun p => kV p.1) (keysD kvs) := by
  induction kvs generalizing ks with
  | nil => cases r; exact .nil
  | cons p kvs ih =>
    obtain ⟨k, d⟩ := p
    cases r with
    | cons h1 h2 =>
      refine .cons ?_ (ih h2)
      cases k with
      | inl i => exact .int i
      | inr x => exact .str x
theorem yields_keys {K : PySem.W.Frag} {m0 : List Addr} {G0 : Hp} {d : Addr} {o : Obj} {ks : List (Key × V)} {kvs : List (Key × D)} (h : G0 d = some (.frz o (.dK ks))) (r : RpK K m0 G0 ks kvs) : Yields K T (Itk d o ks) m0 G0 (keysD kvs) none where
  go := fun i m G S H l sr _ hi => ⟨sr.fits _ _ (l.ge _ _ h), by rw [r.length]; simpa [keysD] using hi⟩
  stop := fun m G S H l sr _ => ⟨sr.fits _ _ (l.ge _ _ h), by rw [r.length]; simp [keysD]⟩
  yld := fun i dd m G S H x H' l sr _ e y => by
    obtain ⟨rfl, k, v, e1, rfl⟩ := y
    obtain ⟨u, e2, r2⟩ := (keys_rp (m' := m) (G' := G) r).get e
    rw [List.getElem?_map, e1] at e2
    cases e2
    exact ⟨G, .refl, sr, r2⟩
section
variable {K : PySem.W.Frag} {m m' : List Addr} {G G' H H' : Hp} {S S' : Store} {d : Addr} {ks : List (Key × V)} {ob : Obj}
theorem lock_ge (hd : G d = some (.dK ks)) : (∀ a xs, G a = some (.lst xs) → upd G d (.frz ob (.dK ks)) a = some (.lst xs)) ∧ (∀ a u, (∀ o w, u ≠ HO.frz o w) → Rd G a u → Rd (upd G d (.frz ob (.dK ks))) a u) := by
  refine ⟨fun b xs q => ?_, fun b w n q => ?_⟩
  · have : b ≠ d := fun e => by rw [e, hd] at q; cases q
    rw [upd_ne this]; exact q
  · by_cases e : b = d
    · rw [e] at q ⊢
      rcases q with q | ⟨o', q⟩
      · rw [hd] at q; cases q; exact .inr ⟨ob, upd_same⟩
      · rw [hd] at q; cases q
    · rcases q with q | ⟨o', q⟩
      · exact .inl (by rw [upd_ne e]; exact q)
      · exact .inr ⟨o', by rw [upd_ne e]; exact q⟩
/-- the lock is laid on what is told -/
theorem Sr.lock (sr : Sr K T m G S H) (hd : G d = some (.dK ks)) : Sr K T m (upd G d (.frz ob (.dK ks))) S (upd H d (.frz ob (.dK ks))) where
  fits := fun a w h => by
    by_cases e : a = d
    · subst e; rw [upd_same] at h ⊢; exact h
    · rw [upd_ne e] at h ⊢; exact sr.fits a w h
  ntbl := fun a ps h => by
    by_cases e : a = d
    · subst e; rw [upd_same] at h; cases h
    · rw [upd_ne e] at h; exact sr.ntbl a ps h
  len := sr.len
  nd := sr.nd
  cell := fun n c a h1 h2 => by
    have hm := List.mem_of_getElem? h2
    have hne : a ≠ d := fun e => by rw [e] at hm; have := sr.nG d hm; rw [hd] at this; cases this
    exact (sr.cell n c a h1 h2).monoN (fun _ _ q => q) (lock_ge hd).1 (lock_ge hd).2 (upd_ne hne)
  nG := fun a hm => by
    have hne : a ≠ d := fun e => by rw [e] at hm; have := sr.nG d hm; rw [hd] at this; cases this
    rw [upd_ne hne]; exact sr.nG a hm
  tabs := tabs_change sr.tabs (sr.fits _ _ hd) plain_dK
theorem unlock_ge (hd : G' d = some (.frz ob (.dK ks))) : (∀ a xs, G' a = some (.lst xs) → upd G' d (.dK ks) a = some (.lst xs)) ∧ (∀ a u, (∀ o w, u ≠ HO.frz o w) → Rd G' a u → Rd (upd G' d (.dK ks)) a u) := by
  refine ⟨fun b xs q => ?_, fun b w n q => ?_⟩
  · have : b ≠ d := fun e => by rw [e, hd] at q; cases q
    rw [upd_ne this]; exact q
  · by_cases e : b = d
    · rw [e] at q ⊢
      rcases q with q | ⟨o', q⟩
      · rw [hd] at q; cases q; exact absurd rfl (n _ _)
      · rw [hd] at q; cases q; exact .inl upd_same
    · rcases q with q | ⟨o', q⟩
      · exact .inl (by rw [upd_ne e]; exact q)
      · exact .inr ⟨o', by rw [upd_ne e]; exact q⟩
theorem Sr.unlock (sr : Sr K T m' G' S' H') (hd : G' d = some (.frz ob (.dK ks))) : Sr K T m' (upd G' d (.dK ks)) S' (upd H' d (.dK ks)) where
  fits := fun a w h => by
    by_cases e : a = d
    · subst e; rw [upd_same] at h ⊢; exact h
    · rw [upd_ne e] at h ⊢; exact sr.fits a w h
  ntbl := fun a ps h => by
    by_cases e : a = d
    · subst e; rw [upd_same] at h; cases h
    · rw [upd_ne e] at h; exact sr.ntbl a ps h
  len := sr.len
  nd := sr.nd
  cell := fun n c a h1 h2 => by
    have hm := List.mem_of_getElem? h2
    have hne : a ≠ d := fun e => by rw [e] at hm; have := sr.nG d hm; rw [hd] at this; cases this
    exact (sr.cell n c a h1 h2).monoN (fun _ _ q => q) (unlock_ge hd).1 (unlock_ge hd).2 (upd_ne hne)
  nG := fun a hm => by
    have hne : a ≠ d := fun e => by rw [e] at hm; have := sr.nG d hm; rw [hd] at this; cases this
    rw [upd_ne hne]; exact sr.nG a hm
  tabs := tabs_change sr.tabs (sr.fits _ _ hd) plain_frz
theorem Stp.unlock (sr : Sr K T m G S H) (hd : G d = some (.dK ks)) (st : Stp m (upd G d (.frz ob (.dK ks))) (upd H d (.frz ob (.dK ks))) m' G' H') : Stp m G H m' (upd G' d (.dK ks)) (upd H' d (.dK ks)) where
  pre := st.pre
  ge := fun a o h => by
    by_cases e : a = d
    · rw [e] at h ⊢; rw [hd] at h; cases h; exact upd_same
    · rw [upd_ne e]; exact st.ge a o (by rw [upd_ne e]; exact h)
  fresh := fun a h => by
    have e : a ≠ d := fun e => by rw [e, hd] at h; cases h
    rcases st.fresh a (by rw [upd_ne e]; exact h) with q | q
    · exact .inl (by rw [upd_ne e]; exact q)
    · rw [upd_ne e] at q; exact .inr q
  keep := fun a o h n hm => by
    by_cases e : a = d
    · rw [e] at h ⊢; rw [sr.fits _ _ hd] at h; cases h; exact upd_same
    · rw [upd_ne e]; exact st.keep a o (by rw [upd_ne e]; exact h) n hm
  live := fun a h => by
    by_cases e : a = d
    · rw [e, upd_same] at h; cases h
    · rw [upd_ne e] at h
      have := st.live a h
      rw [upd_ne e] at this; exact this
  mnew := fun a h => by
    rcases st.mnew a h with q | q
    · exact .inl q
    · by_cases e : a = d
      · rw [e, upd_same] at q; cases q
      · rw [upd_ne e] at q; exact .inr q
end
/-- no exception may leave -/
def noX {α : Type} : Res α → Res α
  | .ok a => .ok a
  | _ => .stuck
theorem noX_want {α : Type} {r : Res α} {A : α → Prop} {B B' : Addr → Store → Prop} (h : Wants (noX r) A B) : Wants r A B' := by
  cases r with
  | ok a => exact h
  | exc c S => exact h.elim
  | stuck => exact h.elim
def dctV : Option (Option D) → Option (List (Key × D))
  | some (some (.dct kvs)) => some kvs
  | _ => none
theorem dctV_some {o : Option (Option D)} {kvs : List (Key × D)} (h : dctV o = some kvs) : o = some (some (.dct kvs)) := by
  unfold dctV at h
  split at h
  · cases h; rfl
  · cases h
def sxForN (i : Nat) (g : Gx) (s : Sx) : Sx := fun ρ S => match dctV ρ[i]? with
  | some kvs => noX (forL g s none (keysD kvs) ρ S)
  | none => sxFor (ixV (exV i)) g s ρ S
/-- for x in a name -/
theorem ds_forN (i : Nat) {x : Str} {p : Pos} {body : List Stmt} {gt : Gx} {is : List Nat} {s : Sx} (hp : PassesOwn (model X.prog X.w) X.A X.env X.xe) (hc : X.calm = true) (hg : DG X tg gt is) (hb : DSs X T W body s) (hN : X.N[i]? = some x := by rfl) (hv : Vis X.env.scope x := by first | exact Or.inl rfl | exact Or.inr (Or.inl rfl) | exact Or.inr (Or.inr rfl))
    (hd : (x == ("__debug__" : Str)) = false := by decide) (hcd : (x == ("__classdict__" : Str)) = false := by decide) : DS X T W (.For tg (.Name x p) body [] pos) (sxForN i gt s) := by
  have hpv : PE X (.Name x p) (tVar i) := pe_var hN hv hd hcd
  have h1 : PS X (.For tg (.Name x p) body [] pos) (tSt X.K T W (sxFor (ixV (exV i)) gt s)) := (ds_for (W := W) (iter := .Name x p) hp hc (di_val (de_var (T := T) (W := W) (pos := p) i hN hv hd hcd)) hg hb (by intro _; rfl)).ps
  have h2 : PS X (.For tg (.Name x p) body [] pos) (tFor (iKeys (tVar i)) (tGd X.K gt is) (tSt X.K T W s)) := ps_for (iter := .Name x p) hp hc (pi_keys hpv) hg.pg hb.ps (by intro _; rfl)
  refine ⟨PS.imp (PS.or h1 (PS.or (ps_lock h2) h2)) fun D σ H ⟨ρ, m, G, S, hh, h⟩ => ?_⟩
  unfold sxForN at h
  cases e : dctV ρ[i]? with
  | none => rw [e] at h; exact .inl ⟨ρ, m, G, S, hh, h⟩
  | some kvs =>
    rw [e] at h
    obtain ⟨v, ev, rv⟩ := hh.1.2 i _ (dctV_some e)
    cases rv with
    | @dct d ks _ hd hk =>
      rcases hd with hd | ⟨ob, hd⟩
      · refine .inr (.inl ⟨d, .dK ks, hh.2.fits _ _ hd, True.intro, fun od => ⟨.ref d, ev, d, od, rfl, .inl ⟨ks, upd_same, ?_⟩⟩⟩)
        have sr1 := hh.2.lock (ob := od) hd
        have hh1 : Here X.K T σ ρ m (upd G d (.frz od (.dK ks))) S (upd H d (.frz od (.dK ks))) := ⟨⟨hh.1.1, fun j dd q => let ⟨w, q1, q2⟩ := hh.1.2 j dd q; ⟨w, q1, q2.monoN (fun _ _ q => q) (lock_ge hd).1 (lock_ge hd).2⟩⟩, sr1⟩
        have un : ∀ {m' : List Addr} {G' H' : Hp}, Stp m (upd G d (.frz od (.dK ks))) (upd H d (.frz od (.dK ks))) m' G' H' → G' d = some (.frz od (.dK ks)) := fun st => st.ge d _ upd_same
        refine for_run (is := is) hh1 rfl (yields_keys upd_same (hk.monoN (fun _ _ q => q) (lock_ge hd).1 (lock_ge hd).2)) ((noX_want h).imp (fun r hr => ?_) fun _ _ q => q)
        · obtain ⟨fl, ρ', S'⟩ := r
          have er_un : ∀ {σ' : St} {m' : List Addr} {G' : Hp}, G' d = some (.frz od (.dK ks)) → Er X.K m' G' σ' ρ' → Er X.K m' (upd G' d (.dK ks)) σ' ρ' := fun q er => ⟨er.1, fun j dd z => let ⟨w, q1, q2⟩ := er.2 j dd z; ⟨w, q1, q2.monoN (fun _ _ q => q) (unlock_ge q).1 (unlock_ge q).2⟩⟩
          cases fl with
          | nx => exact fun σ' m' G' H' st hh' => ⟨hh'.2.fits _ _ (un st), hr σ' m' _ _ (Stp.unlock hh.2 hd st) ⟨er_un (un st) hh'.1, hh'.2.unlock (un st)⟩⟩
          | bk => exact fun σ' m' G' H' st hh' => ⟨hh'.2.fits _ _ (un st), hr σ' m' _ _ (Stp.unlock hh.2 hd st) ⟨er_un (un st) hh'.1, hh'.2.unlock (un st)⟩⟩
          | ct => exact fun σ' m' G' H' st hh' => ⟨hh'.2.fits _ _ (un st), hr σ' m' _ _ (Stp.unlock hh.2 hd st) ⟨er_un (un st) hh'.1, hh'.2.unlock (un st)⟩⟩
          | rt dd => exact fun v m' G' H' st sr rp => ⟨sr.fits _ _ (un st), hr v m' _ _ (Stp.unlock hh.2 hd st) (sr.unlock (un st)) (rp.monoN (fun _ _ q => q) (unlock_ge (un st)).1 (unlock_ge (un st)).2)⟩
      · exact .inr (.inr ⟨.ref d, ev, d, ob, rfl, .inl ⟨ks, hh.2.fits _ _ hd, for_run (is := is) hh rfl (yields_keys hd hk) (noX_want h)⟩⟩)
/-- [.. for x in a name ..] -/
def exLcN (i : Nat) (g : Gx) (t : Tx) (fe : Ex) (vs : List Nat) : Ex := fun ρ S => match dctV ρ[i]? with
  | some kvs => (noX (lcL g t fe none (wipeD ρ vs) (keysD kvs) [] S)).bind fun q => .ok (.lst q.1, q.2)
  | none => exLc (ixV (exV i)) g t fe vs ρ S
theorem noX_bind {α β : Type} {r : Res α} {k : α → β} {A : β → Prop} {B B' : Addr → Store → Prop} (h : Wants ((noX r).bind fun a => .ok (k a)) A B) : Wants (r.bind fun a => .ok (k a)) A B' := by
  cases r with
  | ok a => exact h
  | exc c S => exact h.elim
  | stuck => exact h.elim
theorem lcN_imp {i : Nat} {gt : Gx} {is vs : List Nat} {t : Tx} {fe : Ex} (hi : ∀ j ∈ is, j ∈ vs) {σ : St} {H : Hp} {Q : VK} (h : tE X.K T W (exLcN i gt t fe vs) σ H Q) :
    tLc (tId X.K T W (ixV (exV i))) (tGd X.K gt is) (tT X.K T WF t) (tE X.K T WF fe) vs σ H Q ∨ (tLockE (tLc (iKeys (tVar i)) (tGd X.K gt is) (tT X.K T WF t) (tE X.K T WF fe) vs) σ H Q ∨ tLc (iKeys (tVar i)) (tGd X.K gt is) (tT X.K T WF t) (tE X.K T WF fe) vs σ H Q) := by
  obtain ⟨ρ, m, G, S, hh, h⟩ := h
  unfold exLcN at h
  cases e : dctV ρ[i]? with
  | none => rw [e] at h; exact .inl (lc_imp hi ⟨ρ, m, G, S, hh, h⟩)
  | some kvs =>
    rw [e] at h
    obtain ⟨v, ev, rv⟩ := hh.1.2 i _ (dctV_some e)
    cases rv with
    | @dct d ks _ hd hk =>
      rcases hd with hd | ⟨ob, hd⟩
      · refine .inr (.inl ⟨d, .dK ks, hh.2.fits _ _ hd, True.intro, fun od => ⟨.ref d, ev, d, od, rfl, .inl ⟨ks, upd_same, fun A nA => ?_⟩⟩⟩)
        have sr1 := hh.2.lock (ob := od) hd
        have hh1 : Here X.K T σ ρ m (upd G d (.frz od (.dK ks))) S (upd H d (.frz od (.dK ks))) := ⟨⟨hh.1.1, fun j dd q => let ⟨w, q1, q2⟩ := hh.1.2 j dd q; ⟨w, q1, q2.monoN (fun _ _ q => q) (lock_ge hd).1 (lock_ge hd).2⟩⟩, sr1⟩
        have un : ∀ {m' : List Addr} {G' H' : Hp}, Stp m (upd G d (.frz od (.dK ks))) (upd H d (.frz od (.dK ks))) m' G' H' → G' d = some (.frz od (.dK ks)) := fun st => st.ge d _ upd_same
        refine lc_run (P := PostX X.K T W σ m G H) (Q := fun v H' => H' d = some (HO.frz od (HO.dK ks)) ∧ Q v (upd H' d (HO.dK ks))) hi hh1 rfl (yields_keys upd_same (hk.monoN (fun _ _ q => q) (lock_ge hd).1 (lock_ge hd).2)) ((noX_bind h).imp (fun r hr => ?_) fun _ _ q => q) A nA
        exact fun v m' G' H' st sr rp => ⟨sr.fits _ _ (un st), hr v m' _ _ (Stp.unlock hh.2 hd st) (sr.unlock (un st)) (rp.monoN (fun _ _ q => q) (unlock_ge (un st)).1 (unlock_ge (un st)).2)⟩
      · exact .inr (.inr ⟨.ref d, ev, d, ob, rfl, .inl ⟨ks, hh.2.fits _ _ hd, fun A nA => lc_run (P := PostX X.K T W σ m G H) hi hh rfl (yields_keys hd hk) (noX_bind h) A nA⟩⟩)
theorem de_lcN (i : Nat) {x : Str} {p : Pos} {elt : Expr} {ifs : List Expr} {scope : Scope} {own : List (Str × Nat)} {gt : Gx} {is : List Nat} {t : Tx} {fe : Ex} (hc : X.calm = true) (hNd : X.N.Nodup) (ok : BlkOk X.N X.env.scope scope own)
    (hg : ∀ (s : Shared) (H : Hp) (C : Addr) (cl : List (Str × Addr)) (fp : List Addr), DG (X.blk s H scope (compEnvC scope cl C X.env) fp) tg gt is) (ht : ∀ (s : Shared) (H : Hp) (C : Addr) (cl : List (Str × Addr)) (fp : List Addr), DTs (X.blk s H scope (compEnvC scope cl C X.env) fp) T WF ifs t)
    (he : ∀ (s : Shared) (H : Hp) (C : Addr) (cl : List (Str × Addr)) (fp : List Addr), DE (X.blk s H scope (compEnvC scope cl C X.env) fp) T WF elt fe) (hN : X.N[i]? = some x := by rfl) (hv : Vis X.env.scope x := by first | exact Or.inl rfl | exact Or.inr (Or.inl rfl) | exact Or.inr (Or.inr rfl))
    (hd : (x == ("__debug__" : Str)) = false := by decide) (hcd : (x == ("__classdict__" : Str)) = false := by decide) (hin : ∀ j ∈ is, j ∈ own.map (·.2) := by decide) :
    DE X T W (.ListComp elt [⟨tg, .Name x p, ifs, 0⟩] scope pos) (exLcN i gt t fe (own.map (·.2))) := by
  have hpv : PE X (.Name x p) (tVar i) := pe_var hN hv hd hcd
  have h1 : PE X (.ListComp elt [⟨tg, .Name x p, ifs, 0⟩] scope pos) _ := pe_lc (iter := .Name x p) (g := tGd X.K gt is) (tt := tT X.K T WF t) (te := tE X.K T WF fe) hc hNd (di_val (tg := tg) (de_var (T := T) (W := W) (pos := p) i hN hv hd hcd)).pi ok (fun s H C cl fp => (hg s H C cl fp).pg) (fun s H C cl fp => (ht s H C cl fp).pts) (fun s H C cl fp => (he s H C cl fp).pe) (by intro _; rfl)
  have h2 : PE X (.ListComp elt [⟨tg, .Name x p, ifs, 0⟩] scope pos) _ := pe_lc (iter := .Name x p) (g := tGd X.K gt is) (tt := tT X.K T WF t) (te := tE X.K T WF fe) hc hNd (pi_keys (tg := tg) hpv) ok (fun s H C cl fp => (hg s H C cl fp).pg) (fun s H C cl fp => (ht s H C cl fp).pts) (fun s H C cl fp => (he s H C cl fp).pe) (by intro _; rfl)
  exact ⟨PE.imp (PE.or h1 (PE.or (pe_lock h2) h2)) fun σ H Q h => lcN_imp hin h⟩
theorem ds_setLcN (j i : Nat) {y x : Str} {py p spos : Pos} {elt : Expr} {ifs : List Expr} {scope : Scope} {own : List (Str × Nat)} {gt : Gx} {is : List Nat} {t : Tx} {fe : Ex} (hc : X.calm = true) (hNd : X.N.Nodup) (ok : BlkOk X.N X.env.scope scope own)
    (hg : ∀ (s : Shared) (H : Hp) (C : Addr) (cl : List (Str × Addr)) (fp : List Addr), DG (X.blk s H scope (compEnvC scope cl C X.env) fp) tg gt is) (ht : ∀ (s : Shared) (H : Hp) (C : Addr) (cl : List (Str × Addr)) (fp : List Addr), DTs (X.blk s H scope (compEnvC scope cl C X.env) fp) T WF ifs t)
    (he : ∀ (s : Shared) (H : Hp) (C : Addr) (cl : List (Str × Addr)) (fp : List Addr), DE (X.blk s H scope (compEnvC scope cl C X.env) fp) T WF elt fe) (hy : X.N[j]? = some y := by rfl) (hyl : X.env.scope.names.lookup y = some .local := by rfl)
    (hsw : swapsWith (.ListComp elt [⟨tg, .Name x p, ifs, 0⟩] scope pos) (some (.Name y py)) spos.line X.env = pure true := by exact sw_true rfl rfl rfl (by decide +kernel)) (hN : X.N[i]? = some x := by rfl) (hv : Vis X.env.scope x := by first | exact Or.inl rfl | exact Or.inr (Or.inl rfl) | exact Or.inr (Or.inr rfl))
    (hd : (x == ("__debug__" : Str)) = false := by decide) (hcd : (x == ("__classdict__" : Str)) = false := by decide) (hin : ∀ j ∈ is, j ∈ own.map (·.2) := by decide) :
    DS X T W (.Assign [.Name y py] (.ListComp elt [⟨tg, .Name x p, ifs, 0⟩] scope pos) spos) (sxA (exLcN i gt t fe (own.map (·.2))) (gN j)) := by
  have hpv : PE X (.Name x p) (tVar i) := pe_var hN hv hd hcd
  have h1 : PS X (.Assign [.Name y py] (.ListComp elt [⟨tg, .Name x p, ifs, 0⟩] scope pos) spos) _ := ps_setLc (iter := .Name x p) (g := tGd X.K gt is) (tt := tT X.K T WF t) (te := tE X.K T WF fe) hc hNd hy hyl hsw (di_val (tg := tg) (de_var (T := T) (W := W) (pos := p) i hN hv hd hcd)).pi ok (fun s H C cl fp => (hg s H C cl fp).pg) (fun s H C cl fp => (ht s H C cl fp).pts) (fun s H C cl fp => (he s H C cl fp).pe) (by intro _; rfl)
  have h2 : PS X (.Assign [.Name y py] (.ListComp elt [⟨tg, .Name x p, ifs, 0⟩] scope pos) spos) _ := ps_setLc (iter := .Name x p) (g := tGd X.K gt is) (tt := tT X.K T WF t) (te := tE X.K T WF fe) hc hNd hy hyl hsw (pi_keys (tg := tg) hpv) ok (fun s H C cl fp => (hg s H C cl fp).pg) (fun s H C cl fp => (ht s H C cl fp).pts) (fun s H C cl fp => (he s H C cl fp).pe) (by intro _; rfl)
  refine ⟨PS.imp (PS.or h1 (PS.or (ps_lock h2) h2)) fun D σ H ⟨ρ, m, G, S, hh, h⟩ => ?_⟩
  have q : tE X.K T W (exLcN i gt t fe (own.map (·.2))) σ H (fun x H1 => gName j x σ H1 D.nx) := by
    refine ⟨ρ, m, G, S, hh, ?_⟩
    refine (Wants.bind h).imp (fun r hr v m1 G1 H1 st1 sr1 rx => ?_) fun _ _ q => q.at
    exact hr _ m1 G1 H1 st1 ⟨er_set (hh.1.mono st1) rx, sr1⟩
  rcases lcN_imp hin q with q | q | q
  · exact .inl q
  · refine .inr (.inl ?_)
    obtain ⟨d, u, hd, mu, k⟩ := q
    exact ⟨d, u, hd, mu, fun od => k od⟩
  · exact .inr (.inr q)
end
end DL

/-! DL9: the head's facts by names, defs with their calls in a bundle, the end. -/
namespace DL
open PySem PySem.Spec L2

/-- what may leave is told, of exceptions whose context is None -/
theorem tkO {X : Cx} {E : XK} (hs : X.stack = X.env :: X.outer) (hf : X.env.frame = some X.env.locals) (hex : X.ex = []) {E₁ : Value → Shared → Prop} (hx : X.xe = fun e s' => wpAny (model X.prog X.w) X.A (leaving X.env e) (fun _ s'' => L2N.CX X.prog X.w X.outer X.H_0 X.s_0 E e s'') E₁ s') : L2N.Takes X (fun cls d _ H => E cls d H) := L2N.takes_of hs hf hex hx
theorem tk0 {X : Cx} : L2N.Takes X (fun _ _ _ _ => False) := fun _ _ x => by
  obtain ⟨_, _, _, _, _, _, _, _, _, _, _, _, _, _, _, _, z⟩ := x
  exact z.elim
/-- what the head told -/
structure Fs (fa : List He.Fa) (fn : List He.DefD) (tf : List He.Defn) (ex : PySem.W.Frag → Bool) (K : PySem.W.Frag) (mg : Str → Option Value) (base : Heap) : Prop where
  inb : K.In base
  ns : base.Ns mainGlobals mg
  d : He.SaysD fa fn K
  more : ex K = true
  tb : ∀ p ∈ tf, LamX.TabB base mg (He.cT K p).1 (He.cT K p).2
section
variable {fa : List He.Fa} {fn : List He.DefD} {tf : List He.Defn} {ex : PySem.W.Frag → Bool} {K : PySem.W.Frag} {mg : Str → Option Value} {base : Heap}
theorem Fs.glo (c : Fs fa fn tf ex K mg base) (i : Nat) {x : Str} (h : fa[i]? = some (.glo x) := by rfl) : mg x = some (.ref (He.ga K x)) := He.glo_ok c.inb c.ns (c.d.fact i h)
theorem Fs.free (c : Fs fa fn tf ex K mg base) (i : Nat) {x : Str} (h : fa[i]? = some (.free x) := by rfl) : mg x = none := He.free_ok c.inb c.ns (c.d.fact i h)
theorem Fs.int (c : Fs fa fn tf ex K mg base) (i : Nat) {x : Str} {n : Int} (h : fa[i]? = some (.int x n) := by rfl) : ∃ t, mg x = some (.int n t) := He.int_ok c.inb c.ns (c.d.fact i h)
theorem Fs.str (c : Fs fa fn tf ex K mg base) (i : Nat) {x z : Str} (h : fa[i]? = some (.str x z) := by rfl) : ∃ t, mg x = some (.str z t) := He.str_ok c.inb c.ns (c.d.fact i h)
theorem Fs.cls (c : Fs fa fn tf ex K mg base) (i : Nat) {x : Str} (h : fa[i]? = some (.cls x) := by rfl) : Cls K (He.ga K x) := He.cls_ok (c.d.fact i h)
theorem Fs.noat (c : Fs fa fn tf ex K mg base) (i : Nat) {x f : Str} (h : fa[i]? = some (.noat x f) := by rfl) : NoAttr K (He.ga K x) f := He.noat_ok (c.d.fact i h)
theorem Fs.meth (c : Fs fa fn tf ex K mg base) (i : Nat) {x m : Str} (h : fa[i]? = some (.meth x m) := by rfl) : Meth K (He.ga K x) m (He.ma K (He.ga K x) m) := He.meth_ok (c.d.fact i h)
theorem Fs.mkr (c : Fs fa fn tf ex K mg base) (i : Nat) {x : Str} (h : fa[i]? = some (.mkr x) := by rfl) : Mk K (He.ga K x) (He.ma K (He.ga K x) "__init__") := He.mkr_ok (c.d.fact i h)
theorem Fs.exc (c : Fs fa fn tf ex K mg base) (i : Nat) {x : Str} (h : fa[i]? = some (.exc x) := by rfl) : PySem.W.excIn K (He.ga K x) He.veBase "ValueError.__new__" = true ∧ PySem.W.keepIn K (.ref (He.ga K x)) = true ∧ PySem.W.subIn K (.ref (He.ga K x)) (.type "BaseException") = some true ∧ PySem.W.typeIn K (.ref (He.ga K x)) = some (.type "type") := He.exc_ok (c.d.fact i h)
end

/-- a def's promise, and how its arguments bind -/
structure Good (P : Program) (w : World) (K : PySem.W.Frag) (mg : Str → Option Value) (base : Heap) (T : List (Addr × Str)) (k : Nat) (f : Addr) (ps : List Str) (F : Fx) : Prop where
  ex : ∃ fd, FnOk P w K mg base (L2N.CX P w) k f fd ps (spF K T ps.length F) ∧ Binds K fd ps [] ∧ ∃ oc od osl, K.lookup f = some ⟨oc, od, .func fd, osl⟩
  kp : PySem.W.keepIn K (.ref f) = true
section
variable {P : Program} {w : World} {K : PySem.W.Frag} {mg : Str → Option Value} {base : Heap} {T : List (Addr × Str)}
theorem fnG {x qual : Str} {st : Stmt} {f : Addr} {fd : FuncData} {kws : List (Str × V)} {N ps : List Str} {k : Nat} {s : Sx} (F : FunD K x qual (defArgs st) (defBody st) (defScope st) [] kws f fd) (Sc : FnScope N ps (defScope st))
    (hb : ∀ (kV doc pm : Value) (an : Option Addr) (cdv ct : Value) (us : List Value), us.length = ps.length → bindArgs (PySem.W.fnOf x qual (defArgs st) (defBody st) (defScope st) .none kV doc pm an cdv ct) ⟨us, []⟩ = pure (ps.zip us))
    (body : ∀ (cdv : Value) (A : Around) (outer : List Env) (s0 : Shared) (H : Hp) (E : XK), Room k (A.deeper (PyProof.Rows.envOfC qual (defScope st) s0.heap.objs.size f cdv)) →
      DSs (cxOf (L2N.CX P w) P w K mg base N qual (defScope st) f cdv A outer s0 H E) T (fun cls d _ H => E cls d H) (defBody st) s) :
    Good P w K mg base T (k + 1) f ps (runF N.length s) := by
  refine ⟨⟨fd, F.ok Sc (fun vs H Q E h => spF_len h) fun cdv A outer s0 H vs Q E hr h => ?_, F.bindsN hb, by obtain ⟨oc, od, _, _, _, _, _, _, _, osl, _, lk, _⟩ := F.ex; exact ⟨oc, od, osl, lk⟩⟩, F.kp⟩
  obtain ⟨ds, m, G, S, h1, h2, h3, h4⟩ := h
  exact ⟨_, (body cdv A outer s0 H E hr).ps, run_want ⟨er_start N h2, h3⟩ h4⟩
theorem Good.pure {k : Nat} {f : Addr} {ps : List Str} {F : Fx} (g : Good P w K mg base T k f ps F) {p : Px1} (hp : ∀ ds S, Keeps (F ds S) (p ds) S) : Good P w K mg base T k f ps (liftP p) := by
  obtain ⟨⟨fd, h, b⟩, kp⟩ := g
  exact ⟨⟨fd, fnP h hp, b⟩, kp⟩
/-- a promise that says less -/
def Sub (r q : Res (D × Store)) : Prop := match q with
  | .stuck => True
  | _ => r = q
theorem Good.sub {k : Nat} {f : Addr} {ps : List Str} {F F' : Fx} (g : Good P w K mg base T k f ps F) (hp : ∀ ds S, Sub (F ds S) (F' ds S)) : Good P w K mg base T k f ps F' := by
  obtain ⟨⟨fd, h, b⟩, kp⟩ := g
  refine ⟨⟨fd, h.imp fun vs H Q E q => ?_, b⟩, kp⟩
  obtain ⟨ds, m, G, S, h1, h2, h3, h4⟩ := q
  refine ⟨ds, m, G, S, h1, h2, h3, ?_⟩
  have hk := hp ds S
  unfold Sub at hk
  split at hk
  · rename_i e
    rw [e] at h4
    exact h4.elim
  · rw [hk]; exact h4
end
section
variable {X : Cx} {T : List (Addr × Str)} {W : WX} {a b c e o : Expr} {es : List Expr} {f f1 f2 f3 fo : Ex} {g : Ax} {pos apos : Pos}
theorem de_callG {x : Str} {p : Pos} {j k : Nat} {fa : Addr} {ps : List Str} {F : Fx} (gd : Good X.prog X.w X.K X.mg X.base T k fa ps F) (hr : Room j X.A) (hm : X.mg x = some (.ref fa)) (tk : L2N.Takes X W) (hk : k ≤ j) (hg : Gl X x)
    (ha : DA X T W (e :: es) g) (hdb : (x == ("__debug__" : Str)) = false := by decide) (he : starEach (e :: es) X.env = (false, eval e X.env) :: starEach es X.env := by rfl) (hpl : (backTo pos (starEach es X.env)).any (·.1) = false := by rfl) :
    DE X T W (.Call (.Name x p) (e :: es) [] pos) (exF ps.length F g) := by
  obtain ⟨⟨fd, h, hb, _⟩, kp⟩ := gd
  exact de_call h (hr.mono hk) hg hm kp hb tk ha hdb he hpl
theorem de_methG {n : Str} {C fa : Addr} {ps : List Str} {j k : Nat} {F : Fx} {pl : Sem Bool} (gd : Good X.prog X.w X.K X.mg X.base T k fa ps F) (hr : Room j X.A) (c : Cls X.K C) (hm : Meth X.K C n fa) (tk : L2N.Takes X W) (hk : k ≤ j) (ho : DE X T W o fo) (ha : DA X T W (e :: es) g)
    (hst : starEach (e :: es) X.env = (false, eval e X.env) :: starEach es X.env := by rfl) (hpl : (backTo pos (starEach es X.env)).any (·.1) = false := by rfl)
    (ht : eval (.Call (.Attribute o n apos) (e :: es) [] pos) X.env = (do
      let ov ← eval o X.env
      standAt apos.atName
      let (f, first) ← holding [ov] (getMethod ov n pl)
      callWith pos f first (backTo pos (starEach (e :: es) X.env)) (backToKw pos (keywordEach [] X.env))) := by rfl) : DE X T W (.Call (.Attribute o n apos) (e :: es) [] pos) (exMeth C n ps.length F fo g) := by
  obtain ⟨⟨fd, h, hb, _⟩, kp⟩ := gd
  exact de_meth c hm h (hr.mono hk) hb tk ho ha hst hpl ht
theorem de_meth0G {n : Str} {C fa : Addr} {p0 : Str} {j k : Nat} {F : Fx} {pl : Sem Bool} (gd : Good X.prog X.w X.K X.mg X.base T k fa [p0] F) (hr : Room j X.A) (c : Cls X.K C) (hm : Meth X.K C n fa) (tk : L2N.Takes X W) (hk : k ≤ j) (ho : DE X T W o fo)
    (ht : eval (.Call (.Attribute o n apos) [] [] pos) X.env = (do
      let ov ← eval o X.env
      standAt apos.atName
      let (f, first) ← holding [ov] (getMethod ov n pl)
      callWith pos f first (backTo pos (starEach [] X.env)) (backToKw pos (keywordEach [] X.env))) := by rfl) : DE X T W (.Call (.Attribute o n apos) [] [] pos) (exMeth0 C n F fo) := by
  obtain ⟨⟨fd, h, hb, _⟩, kp⟩ := gd
  exact de_meth0 c hm h (hr.mono hk) hb tk ho ht
theorem de_makeG {x : Str} {p : Pos} {C fa : Addr} {ps : List Str} {j k : Nat} {F : Fx} (gd : Good X.prog X.w X.K X.mg X.base T k fa ps F) (M : Mk X.K C fa) (hr : Room j X.A) (hm : X.mg x = some (.ref C)) (tk : L2N.Takes X W) (hk : k + 1 ≤ j) (hg : Gl X x)
    (ha : DA X T W (e :: es) g) (hdb : (x == ("__debug__" : Str)) = false := by decide) (he : starEach (e :: es) X.env = (false, eval e X.env) :: starEach es X.env := by rfl) (hpl : (backTo pos (starEach es X.env)).any (·.1) = false := by rfl) :
    DE X T W (.Call (.Name x p) (e :: es) [] pos) (exMake C ps.length F g) := by
  obtain ⟨⟨fd, h, hb, _⟩, kp⟩ := gd
  exact de_make M h (hr.mono hk) hg hm hb tk ha hdb he hpl
/-- raise C('m') -/
theorem ds_raiseE {x m : Str} {C : Addr} {j : Nat} {p p2 pos2 : Pos} (hc : X.calm = true) (tk : L2N.Takes X W) (hm : X.mg x = some (.ref C)) (q : PySem.W.excIn X.K C He.veBase "ValueError.__new__" = true ∧ PySem.W.keepIn X.K (.ref C) = true ∧ PySem.W.subIn X.K (.ref C) (.type "BaseException") = some true ∧ PySem.W.typeIn X.K (.ref C) = some (.type "type")) (hg : Gl X x)
    (hdb : (x == ("__debug__" : Str)) = false := by decide) : DS X T W (.Raise (some (.Call (.Name x p) [.Constant (.str m) j p2] [] pos2)) none pos) (sxX C) :=
  ds_raise hc tk (L2N.pmk_own PySem.F.excBase_ValueError q.1 hm q.2.1 (raises_own q.2.2.1 q.2.2.2) hg hdb)
theorem de_gint {x : Str} {i : Int} (hm : ∃ t, X.mg x = some (.int i t)) (hg : Gl X x) (hd : (x == ("__debug__" : Str)) = false := by decide) : DE X T W (.Name x pos) (exC (.int i)) := by
  obtain ⟨t, hm⟩ := hm
  exact de_glob (v := .int i) hg hm ⟨t, rfl⟩ (fun _ _ => .int i) hd
theorem de_gstr {x z : Str} (hm : ∃ t, X.mg x = some (.str z t)) (hg : Gl X x) (hd : (x == ("__debug__" : Str)) = false := by decide) : DE X T W (.Name x pos) (exC (.str z)) := by
  obtain ⟨t, hm⟩ := hm
  exact de_glob (v := .str z) hg hm ⟨t, rfl⟩ (fun _ _ => .str z) hd
/-- a table of the module: texts, numbers, in a tuple -/
def dvD : He.Dv → D
  | .non => .non
  | .bl b => .bl b
  | .int i => .int i
  | .str x => .str x
  | _ => .loc 0
def dvOk : He.Dv → Bool
  | .non => true
  | .bl _ => true
  | .int _ => true
  | .str _ => true
  | _ => false
theorem rp_dvs {K : PySem.W.Frag} {m : List Addr} {G : Hp} : ∀ {vs : List He.Dv}, vs.all dvOk = true → RpL K m G (vs.map (He.Dv.v K)) (vs.map dvD)
  | [], _ => .nil
  | v :: vs, h => by
    rw [List.all_cons, Bool.and_eq_true] at h
    refine .cons ?_ (rp_dvs h.2)
    cases v <;> first | exact .non | exact .bl _ | exact .int _ | exact .str _ | exact absurd h.1 Bool.false_ne_true
theorem de_gtup {x : Str} {vs : List He.Dv} (hm : X.mg x = some (.ref (He.ga X.K x))) (h : He.tupB X.K x vs = true) (hv : vs.all dvOk = true) (hg : Gl X x) (hd : (x == ("__debug__" : Str)) = false := by decide) : DE X T W (.Name x pos) (exC (.tup (vs.map dvD))) :=
  de_glob (v := .ref (He.ga X.K x)) hg hm rfl (fun m G => .tup (He.tupB_ok h G) (rp_dvs hv)) hd
end

def sxNil : Sx := fun ρ S => .ok (.nx, ρ, S)
def ex0 (F : Fx) : Ex := fun _ S => F [] S
theorem de_call0G {x : Str} {p : Pos} {j k : Nat} {fa : Addr} {F : Fx} (gd : Good X.prog X.w X.K X.mg X.base T k fa [] F) (hr : Room j X.A) (hm : X.mg x = some (.ref fa)) (hk : k ≤ j) (hg : Gl X x) (hF : ∀ S c S', F [] S ≠ .exc c S') (hdb : (x == ("__debug__" : Str)) = false := by decide) :
    DE X T W (.Call (.Name x p) [] [] pos) (ex0 F) := by
  obtain ⟨⟨fd, h, hb, _⟩, kp⟩ := gd
  exact de_call0 h (hr.mono hk) hg hm kp hb hF hdb

/-! ### the end -/
theorem rpl_ints {K : PySem.W.Frag} {m : List Addr} {G : Hp} : ∀ (ns : List Int), RpL K m G (ns.map V.int) (ns.map D.int)
  | [] => .nil
  | n :: r => .cons (.int n) (rpl_ints r)
/-- the promise, of the object that stands there -/
theorem Good.at {P : Program} {w : World} {K : PySem.W.Frag} {mg : Str → Option Value} {base : Heap} {T : List (Addr × Str)} {k : Nat} {f : Addr} {ps : List Str} {F : Fx} (g : Good P w K mg base T k f ps F) {oc : Value} {od : Option Addr} {fd : FuncData} {osl : Array (Option Value)} (h : K.lookup f = some ⟨oc, od, .func fd, osl⟩) :
    FnOk P w K mg base (L2N.CX P w) k f fd ps (spF K T ps.length F) := by
  obtain ⟨⟨fd', h1, _, oc', od', osl', e⟩, _⟩ := g
  rw [e] at h
  cases h
  exact h1
end DL

/-! DL10: a comprehension whose list is changed later; list(..); what a def hands out freshly made. -/
namespace DL
open PySem PySem.Spec L2
def exLcM (it : Ix) (g : Gx) (t : Tx) (fe : Ex) (vs : List Nat) : Ex := fun ρ S => (it ρ S).bind fun r => (lcL g t fe r.1.2 (wipeD ρ vs) r.1.1 [] r.2).bind fun q => .ok (.loc q.2.length, q.2 ++ [.lst q.1])
section
variable {K : PySem.W.Frag} {T : List (Addr × Str)} {m m1 m2 : List Addr} {G G1 G2 H H1 H2 : Hp} {S S1 : Store} {p : Addr}
theorem Stp.revealC (st : Stp m G H m2 G2 H2) (np : H p = none) : Stp m G H (m2 ++ [p]) G2 H2 where
  pre := fun n a h => by
    have h1 := st.pre n a h
    rw [List.getElem?_append_left (List.getElem?_eq_some_iff.mp h1).1]; exact h1
  ge := st.ge
  fresh := st.fresh
  keep := st.keep
  live := st.live
  mnew := fun a h => by
    rcases List.mem_append.mp h with h | h
    · exact st.mnew a h
    · simp only [List.mem_singleton] at h; rw [h]; exact .inr np
theorem Sr.revealC {o : HO} {cl : Cell} (sr : Sr K T m G S H) (hp : H p = some o) (hm : p ∉ m) (hG : G p = none) (hc : CellOk K m G H p cl) : Sr K T (m ++ [p]) G (S ++ [cl]) H where
  fits := sr.fits
  ntbl := sr.ntbl
  len := by simp [sr.len]
  nd := by
    rw [List.nodup_append]
    exact ⟨sr.nd, by simp, fun a ha b hb => by simp only [List.mem_singleton] at hb; intro e; rw [hb] at e; exact hm (e ▸ ha)⟩
  cell := fun n c a h1 h2 => by
    have mono : ∀ {a : Addr} {c : Cell}, CellOk K m G H a c → CellOk K (m ++ [p]) G H a c := fun h => h.mono' (fun n a h => by rw [List.getElem?_append_left (List.getElem?_eq_some_iff.mp h).1]; exact h) (fun _ _ q => q) (fun _ _ q => q) rfl
    by_cases hn : n < S.length
    · rw [List.getElem?_append_left hn] at h1
      rw [List.getElem?_append_left (by rw [sr.len]; exact hn)] at h2
      exact mono (sr.cell n c a h1 h2)
    · have e : n = S.length := by
        have := (List.getElem?_eq_some_iff.mp h1).1
        rw [List.length_append, List.length_singleton] at this
        omega
      subst e
      rw [List.getElem?_append_right (Nat.le_refl _)] at h1
      rw [← sr.len, List.getElem?_append_right (Nat.le_refl _)] at h2
      simp only [Nat.sub_self, List.getElem?_cons_zero, Option.some.injEq] at h1 h2
      subst h1; subst h2
      exact mono hc
  nG := fun a h => by
    rcases List.mem_append.mp h with h | h
    · exact sr.nG a h
    · simp only [List.mem_singleton] at h; rw [h]; exact hG
  tabs := sr.tabs
end
section
variable {T : List (Addr × Str)} {W : WX}
section
variable {K : PySem.W.Frag} {m m1 : List Addr} {G G1 H H1 : Hp} {S S1 : Store} {σ : St} {ρ : DEnv}
/-- the loop of a comprehension whose iterator has come -/
theorem lcM_run {J : It} {g : Gx} {t : Tx} {fe : Ex} {vs is : List Nat} {ds : List D} {ck : Option (Nat × List D)} {Q : VK} {P : Addr → Store → Prop} (hi : ∀ j ∈ is, j ∈ vs) (hh : Here K T σ ρ m1 G1 S1 H1) (hck : ckB ck S1 = true) (hy : Yields K T J m1 G1 ds ck)
    (h : Wants ((lcL g t fe ck (wipeD ρ vs) ds [] S1).bind fun q => .ok (D.loc q.2.length, q.2 ++ [Cell.lst q.1])) (PostE K T m1 G1 H1 Q) P) (A : Addr) (nA : H1 A = none) :
    ∃ W : Nat → Nat → Hp → Prop, (∃ m, W 0 m (upd H1 A (.lst []))) ∧ ∀ i m H, W i m H →
      (J.stop i H ∧ Q (.ref A) H) ∨ (J.go i H ∧ ∃ Nx : Hp → Prop, (∀ H', Nx H' → ∃ m', m' < m ∧ W (i + 1) m' H') ∧ ∀ x H', J.yld i H x H' → tGd K g is x (wipe σ vs) H' fun σ2 H2 => wipe σ2 vs = wipe σ vs ∧ tT K T WF t σ2 H2 fun b H3 =>
        if b = true then tE K T WF fe σ2 H3 fun y H4 => ∃ acc, H4 A = some (.lst acc) ∧ acc.length < sizeLine ∧ Nx (upd H4 A (.lst (acc ++ [y]))) else Nx H3) := by
  have nt : ∀ (xs : List V) ps, (HO.lst xs : HO) ≠ .tbl ps := fun xs _ z => by cases z
  let I : Nat → Hp → Prop := fun i H => i ≤ ds.length ∧ ∃ m G S acc us, Stp m1 G1 H1 m G H ∧ Sr K T m G S H ∧ ckB ck S = true ∧ H A = some (.lst us) ∧ A ∉ m ∧ G A = none ∧ RpL K m G us acc ∧
    Wants ((lcL g t fe ck (wipeD ρ vs) (ds.drop i) acc S).bind fun q => .ok (D.loc q.2.length, q.2 ++ [Cell.lst q.1])) (PostE K T m1 G1 H1 Q) P
  refine ⟨fun i k H => k = ds.length - i ∧ I i H, ⟨_, rfl, Nat.zero_le _, m1, G1, S1, [], [], Stp.hide nA, hh.2.hide nA (nt _), hck, upd_same, hh.2.notm nA, hh.2.notG nA, .nil, by simpa using h⟩, ?_⟩
  rintro i k H ⟨rfl, hle, m, G, S, acc, us, st, sr, hck, hA, hAm, hAG, rl, hw⟩
  have lt : Later m1 G1 m G := ⟨st.pre, st.ge⟩
  by_cases hlt : i < ds.length
  · refine .inr ⟨hy.go i m G S H lt sr hck hlt, I (i + 1), fun H' h' => ⟨_, by omega, rfl, h'⟩, fun x H' y => ?_⟩
    have hd : ds[i]? = some ds[i] := List.getElem?_eq_getElem hlt
    obtain ⟨G', st', sr', rp⟩ := hy.yld i ds[i] m G S H x H' lt sr hck hd y
    have hA' : H' A = some (.lst us) := st'.keep A _ hA (nt _) hAm
    have hAG' : G' A = none := by
      rcases st'.fresh A hAG with q | q
      · exact q
      · rw [hA] at q; cases q
    have st1 := st.trans st' hh.2.fits
    rw [List.drop_eq_getElem_cons hlt] at hw
    unfold lcL at hw
    cases e1 : g ds[i] (wipeD ρ vs) with
    | none => rw [e1] at hw; exact hw.elim
    | some ρ1 =>
      rw [e1] at hw
      dsimp only at hw
      have er' : Er K m G' (wipe σ vs) (wipeD ρ vs) := er_wipe ((hh.1.mono st).mono st') vs
      refine ⟨ds[i], wipeD ρ vs, m, G', er', sr'.fits, rp, ρ1, e1, fun σ2 er2 but => ⟨wipe_but but hi, ρ1, m, G', S, ⟨er2, sr'⟩, ?_⟩⟩
      cases e2 : t ρ1 S with
      | stuck => rw [e2] at hw; exact hw.elim
      | exc c S' => rw [e2] at hw; exact hw.elim
      | ok r =>
        obtain ⟨k, S2⟩ := r
        rw [e2] at hw
        intro m3 G3 H3 st3 sr3
        have hA3 : H3 A = some (.lst us) := st3.keep A _ hA' (nt _) hAm
        have hAm3 : A ∉ m3 := fun z => by
          rcases st3.mnew A z with q | q
          · exact hAm q
          · rw [hA'] at q; cases q
        have hAG3 : G3 A = none := by
          rcases st3.fresh A hAG' with q | q
          · exact q
          · rw [hA'] at q; cases q
        have st13 := st1.trans st3 hh.2.fits
        cases k with
        | true =>
          rw [if_pos rfl]
          dsimp only at hw
          refine ⟨ρ1, m3, G3, S2, ⟨er2.mono st3, sr3⟩, ?_⟩
          cases e3 : fe ρ1 S2 with
          | stuck => rw [e3] at hw; exact hw.elim
          | exc c S' => rw [e3] at hw; exact hw.elim
          | ok r =>
            obtain ⟨yv, S4⟩ := r
            rw [e3] at hw
            dsimp only at hw
            split at hw
            case isFalse => exact hw.elim
            case isTrue hc =>
              intro v m4 G4 H4 st4 sr4 r4
              have hA4 : H4 A = some (.lst us) := st4.keep A _ hA3 (nt _) hAm3
              have hAm4 : A ∉ m4 := fun z => by
                rcases st4.mnew A z with q | q
                · exact hAm3 q
                · rw [hA3] at q; cases q
              have hAG4 : G4 A = none := by
                rcases st4.fresh A hAG3 with q | q
                · exact q
                · rw [hA3] at q; cases q
              have st14 := st13.trans st4 hh.2.fits
              refine ⟨us, hA4, by rw [rl.length]; exact hc.2, hlt, m4, G4, S4, acc ++ [yv], us ++ [v], st14.chg nA, sr4.chg hA4 plain_lst hAm4 hAG4, hc.1, upd_same, hAm4, hAG4, ?_, hw⟩
              exact (((rl.mono st').mono st3).mono st4).append (.cons r4 .nil)
        | false =>
          rw [if_neg Bool.false_ne_true]
          dsimp only at hw
          split at hw
          case isFalse => exact hw.elim
          case isTrue hc =>
            exact ⟨hlt, m3, G3, S2, acc, us, st13, sr3, hc, hA3, hAm3, hAG3, (rl.mono st').mono st3, hw⟩
  · have e : i = ds.length := by omega
    subst e
    refine .inl ⟨hy.stop m G S H lt sr hck, ?_⟩
    rw [List.drop_length] at hw
    have hw : PostE K T m1 G1 H1 Q (.loc S.length, S ++ [.lst acc]) := hw
    exact hw (.ref A) (m ++ [A]) G H (Stp.revealC st nA) (sr.revealC hA hAm hAG ⟨us, hA, rl⟩) (.loc (by rw [← sr.len, List.getElem?_append_right (Nat.le_refl _)]; simp))
theorem lcM_imp {it : Ix} {g : Gx} {t : Tx} {fe : Ex} {vs is : List Nat} (hi : ∀ j ∈ is, j ∈ vs) {Q : VK} (h : tE K T W (exLcM it g t fe vs) σ H Q) : tLc (tId K T W it) (tGd K g is) (tT K T WF t) (tE K T WF fe) vs σ H Q := by
  obtain ⟨ρ, m, G, S, hh, h⟩ := h
  refine ⟨ρ, m, G, S, hh, (Wants.bind h).imp (fun r hr m' G' H' J st sr hck hy A nA => ?_) fun _ _ q => q⟩
  exact lcM_run hi ⟨hh.1.mono st, sr⟩ hck hy (hr.nextE hh.2 st) A nA
end
end
section
variable {X : Cx} {T : List (Addr × Str)} {W : WX} {a b c e tg : Expr} {es : List Expr} {f f1 f2 f3 : Ex} {pos : Pos}
theorem de_lcM {elt iter : Expr} {ifs : List Expr} {scope : Scope} {own : List (Str × Nat)} {it : Ix} {g : Gx} {is : List Nat} {t : Tx} {fe : Ex} (hc : X.calm = true) (hN : X.N.Nodup) (hi : DI X T W tg iter it) (ok : BlkOk X.N X.env.scope scope own)
    (hg : ∀ (s : Shared) (H : Hp) (C : Addr) (cl : List (Str × Addr)) (fp : List Addr), DG (X.blk s H scope (compEnvC scope cl C X.env) fp) tg g is) (ht : ∀ (s : Shared) (H : Hp) (C : Addr) (cl : List (Str × Addr)) (fp : List Addr), DTs (X.blk s H scope (compEnvC scope cl C X.env) fp) T WF ifs t)
    (he : ∀ (s : Shared) (H : Hp) (C : Addr) (cl : List (Str × Addr)) (fp : List Addr), DE (X.blk s H scope (compEnvC scope cl C X.env) fp) T WF elt fe) (hv : ∀ j ∈ is, j ∈ own.map (·.2) := by decide) (hs : ∀ x, foldedSetIterable iter X.env x = pure x := by intro _; rfl) :
    DE X T W (.ListComp elt [⟨tg, iter, ifs, 0⟩] scope pos) (exLcM it g t fe (own.map (·.2))) :=
  ⟨PE.imp (pe_lc (g := tGd X.K g is) (tt := tT X.K T WF t) (te := tE X.K T WF fe) hc hN hi.pi ok (fun s H C cl fp => (hg s H C cl fp).pg) (fun s H C cl fp => (ht s H C cl fp).pts) (fun s H C cl fp => (he s H C cl fp).pe) hs) fun σ H Q h => lcM_imp hv h⟩

/-- name = [..] -/
theorem ds_setLcM {i : Nat} {y : Str} {py spos : Pos} {elt iter : Expr} {ifs : List Expr} {scope : Scope} {own : List (Str × Nat)} {it : Ix} {g : Gx} {is : List Nat} {t : Tx} {fe : Ex} (hc : X.calm = true) (hN : X.N.Nodup) (hi : DI X T W tg iter it) (ok : BlkOk X.N X.env.scope scope own)
    (hg : ∀ (s : Shared) (H : Hp) (C : Addr) (cl : List (Str × Addr)) (fp : List Addr), DG (X.blk s H scope (compEnvC scope cl C X.env) fp) tg g is) (ht : ∀ (s : Shared) (H : Hp) (C : Addr) (cl : List (Str × Addr)) (fp : List Addr), DTs (X.blk s H scope (compEnvC scope cl C X.env) fp) T WF ifs t)
    (he : ∀ (s : Shared) (H : Hp) (C : Addr) (cl : List (Str × Addr)) (fp : List Addr), DE (X.blk s H scope (compEnvC scope cl C X.env) fp) T WF elt fe)
    (hy : X.N[i]? = some y := by rfl) (hyl : X.env.scope.names.lookup y = some .local := by rfl)
    (hsw : swapsWith (.ListComp elt [⟨tg, iter, ifs, 0⟩] scope pos) (some (.Name y py)) spos.line X.env = pure true := by exact sw_true rfl rfl rfl (by decide +kernel)) (hv : ∀ j ∈ is, j ∈ own.map (·.2) := by decide) (hs : ∀ x, foldedSetIterable iter X.env x = pure x := by intro _; rfl) :
    DS X T W (.Assign [.Name y py] (.ListComp elt [⟨tg, iter, ifs, 0⟩] scope pos) spos) (sxA (exLcM it g t fe (own.map (·.2))) (gN i)) := by
  refine ⟨PS.imp (ps_setLc (g := tGd X.K g is) (tt := tT X.K T WF t) (te := tE X.K T WF fe) hc hN hy hyl hsw hi.pi ok (fun s H C cl fp => (hg s H C cl fp).pg) (fun s H C cl fp => (ht s H C cl fp).pts) (fun s H C cl fp => (he s H C cl fp).pe) hs) fun D σ H h => ?_⟩
  obtain ⟨ρ, m, G, S, hh, h⟩ := h
  refine lcM_imp hv ⟨ρ, m, G, S, hh, ?_⟩
  refine (Wants.bind h).imp (fun r hr v m1 G1 H1 st1 sr1 rx => ?_) fun _ _ q => q.at
  exact hr _ m1 G1 H1 st1 ⟨er_set (hh.1.mono st1) rx, sr1⟩

/-- list(xs), of a list or a tuple -/
def gList (S : Store) : List D → Option D
  | [x] => (seqOf S x).map .lst
  | _ => none
theorem calld_list {K : PySem.W.Frag} : CallD K T (fun xs H Q => ∃ p ys, xs = [.ref p] ∧ (SqL K H p ys ∨ SqT K H p ys) ∧ ∀ l, H l = none → Q (.ref l) (upd H l (.lst ys))) gList := by
  intro m G S H xs vs d Q sr rs h p
  unfold gList at h
  split at h
  · rename_i x
    cases e : seqOf S x with
    | none => rw [e] at h; cases h
    | some ds =>
      rw [e] at h
      cases h
      cases rs with
      | cons r1 r2 =>
        cases r2
        obtain ⟨a, ys, rfl, h1, h2⟩ := seqOf_at sr r1 e
        exact ⟨a, ys, rfl, h1, fun l np => p.alloc sr np (fun _ z => by cases z) (.lst upd_same (rpL_alloc sr np h2))⟩
  · cases h
theorem de_listc {p : Pos} {g : Ax} (hg : Gl X "list") (hm : X.mg "list" = none) (ha : DA X T W [e] g) (he : starEach [e] X.env = [(false, eval e X.env)] := by rfl) : DE X T W (.Call (.Name "list" p) [e] [] pos) (exB gList g) :=
  de_callTy call_list_of calld_list hg hm (by decide +kernel) ha (he := he)
end

/-! ### what a def hands out freshly made is data for its caller -/
mutual
inductive Frz (n : Nat) (S : Store) : D → D → Prop
  | same {d : D} : D.under n d = true → Frz n S d d
  | lst {k : Nat} {ds es : List D} : n ≤ k → S[k]? = some (.lst ds) → FrzL n S ds es → Frz n S (.loc k) (.lst es)
  | dct {k : Nat} {ds es : List (Key × D)} : n ≤ k → S[k]? = some (.dct ds) → FrzK n S ds es → Frz n S (.loc k) (.dct es)
  | tup {ds es : List D} : FrzL n S ds es → Frz n S (.tup ds) (.tup es)
  | lstD {ds es : List D} : FrzL n S ds es → Frz n S (.lst ds) (.lst es)
inductive FrzL (n : Nat) (S : Store) : List D → List D → Prop
  | nil : FrzL n S [] []
  | cons {d e : D} {ds es : List D} : Frz n S d e → FrzL n S ds es → FrzL n S (d :: ds) (e :: es)
inductive FrzK (n : Nat) (S : Store) : List (Key × D) → List (Key × D) → Prop
  | nil : FrzK n S [] []
  | cons {k : Key} {d e : D} {ds es : List (Key × D)} : Frz n S d e → FrzK n S ds es → FrzK n S ((k, d) :: ds) ((k, e) :: es)
end
theorem FrzL.same {n : Nat} {S : Store} : ∀ {ds : List D}, D.unders n ds = true → FrzL n S ds ds
  | [], _ => .nil
  | d :: ds, h => by
    simp only [D.unders, Bool.and_eq_true] at h
    exact .cons (.same h.1) (FrzL.same h.2)
def frzG (new : List Addr) (G H : Hp) : Hp := fun a => match G a with
  | some o => some o
  | none => if a ∈ new then (match H a with
    | some (.lst xs) => some (.lst xs)
    | some (.dK ks) => some (.dK ks)
    | _ => none) else none
section
variable {K : PySem.W.Frag} {T : List (Addr × Str)} {m m' : List Addr} {G G' H H' : Hp} {S S' : Store}
theorem frzG_ge {new : List Addr} {a : Addr} {o : HO} (h : G a = some o) : frzG new G H a = some o := by unfold frzG; rw [h]
theorem frzG_rd {new : List Addr} {a : Addr} {o : HO} (h : Rd G a o) : Rd (frzG new G H) a o := h.imp frzG_ge fun ⟨u, e⟩ => ⟨u, frzG_ge e⟩
theorem frzG_in {new : List Addr} {a : Addr} {o : HO} (h : frzG new G H a = some o) : G a = some o ∨ (a ∈ new ∧ H a = some o ∧ ∀ ps, o ≠ .tbl ps) := by
  unfold frzG at h
  cases e : G a with
  | some u => rw [e] at h; exact .inl h
  | none =>
    rw [e] at h
    dsimp only at h
    split at h
    · rename_i hm
      refine .inr ⟨hm, ?_⟩
      split at h
      · rename_i e2; cases h; exact ⟨e2, fun _ z => by cases z⟩
      · rename_i e2; cases h; exact ⟨e2, fun _ z => by cases z⟩
      · cases h
    · cases h
mutual
theorem Frz.rp (hm : m'.take m.length = m) (sr : Sr K T m' G' S' H') : ∀ {v : V} {d e : D}, Frz m.length S' d e → Rp K m' G' v d → Rp K m (frzG (m'.drop m.length) G' H') v e
  | v, d, _, .same h, r => by
    have r1 := r.cut m.length h
    rw [hm] at r1
    exact r1.mono' (fun _ _ q => q) (fun _ _ q => frzG_ge q) (fun _ _ q => frzG_rd q)
  | v, _, _, .lst (k := k) hk hc h, r => by
    cases r with
    | @loc a _ h1 =>
      obtain ⟨xs, q1, q2⟩ := sr.cell k _ a hc h1
      have hin : a ∈ m'.drop m.length := List.mem_of_getElem? (i := k - m.length) (by rw [List.getElem?_drop]; rw [show m.length + (k - m.length) = k by omega]; exact h1)
      refine .lst (xs := xs) ?_ (FrzL.rp hm sr h q2)
      show frzG _ _ _ a = _
      unfold frzG
      rw [sr.nG a (List.mem_of_getElem? h1), if_pos hin, q1]
  | v, _, _, .dct (k := k) hk hc h, r => by
    cases r with
    | @loc a _ h1 =>
      obtain ⟨xs, q1, q2⟩ := sr.cell k _ a hc h1
      have hin : a ∈ m'.drop m.length := List.mem_of_getElem? (i := k - m.length) (by rw [List.getElem?_drop]; rw [show m.length + (k - m.length) = k by omega]; exact h1)
      refine .dct (ks := xs) (.inl ?_) (FrzK.rp hm sr h q2)
      show frzG _ _ _ a = _
      unfold frzG
      rw [sr.nG a (List.mem_of_getElem? h1), if_pos hin, q1]
  | v, _, _, .tup h, r => by
    cases r with
    | tup h1 h2 => exact .tup (sqT_mono (fun _ _ q => frzG_rd q) h1) (FrzL.rp hm sr h h2)
  | v, _, _, .lstD h, r => by
    cases r with
    | lst h1 h2 => exact .lst (frzG_ge h1) (FrzL.rp hm sr h h2)
theorem FrzL.rp (hm : m'.take m.length = m) (sr : Sr K T m' G' S' H') : ∀ {v : List V} {d e : List D}, FrzL m.length S' d e → RpL K m' G' v d → RpL K m (frzG (m'.drop m.length) G' H') v e
  | _, _, _, .nil, r => by cases r; exact .nil
  | _, _, _, .cons h1 h2, r => by
    cases r with
    | cons r1 r2 => exact .cons (Frz.rp hm sr h1 r1) (FrzL.rp hm sr h2 r2)
theorem FrzK.rp (hm : m'.take m.length = m) (sr : Sr K T m' G' S' H') : ∀ {v : List (Key × V)} {d e : List (Key × D)}, FrzK m.length S' d e → RpK K m' G' v d → RpK K m (frzG (m'.drop m.length) G' H') v e
  | _, _, _, .nil, r => by cases r; exact .nil
  | _, _, _, .cons h1 h2, r => by
    cases r with
    | cons r1 r2 => exact .cons (Frz.rp hm sr h1 r1) (FrzK.rp hm sr h2 r2)
end
/-- the cells that came later are dropped, what they hold is data -/
theorem Sr.frz {g : Store} (sr : Sr K T m G S H) (st : Stp m G H m' G' H') (sr' : Sr K T m' G' (S ++ g) H') : Sr K T m (frzG (m'.drop m.length) G' H') S H' ∧ Stp m G H m (frzG (m'.drop m.length) G' H') H' := by
  have em := take_pre st.pre
  obtain ⟨sc, stc⟩ := sr.cut st sr'
  have hnd : ∀ a, a ∈ m → a ∉ m'.drop m.length := fun a ha hd => by
    have := sr'.nd
    rw [← List.take_append_drop m.length m', em, List.nodup_append] at this
    exact this.2.2 a ha a hd rfl
  refine ⟨⟨fun a o h => ?_, fun a ps h => ?_, sc.len, sc.nd, fun n c a h1 h2 => ?_, fun a ha => ?_, sc.tabs⟩, ⟨fun _ _ h => h, fun a o h => frzG_ge (st.ge a o h), fun a h => ?_, stc.keep, stc.live, fun _ h => .inl h⟩⟩
  · rcases frzG_in h with h | h
    · exact sc.fits a o h
    · exact h.2.1
  · rcases frzG_in h with h | h
    · exact sc.ntbl a ps h
    · exact h.2.2 ps rfl
  · exact (sc.cell n c a h1 h2).mono' (fun _ _ q => q) (fun _ _ q => frzG_ge q) (fun _ _ q => frzG_rd q) rfl
  · unfold frzG
    rw [sc.nG a ha, if_neg (hnd a ha)]
  · rcases st.fresh a h with h1 | h1
    · by_cases hd : a ∈ m'.drop m.length
      · rcases st.mnew a (List.mem_of_mem_drop hd) with q | q
        · exact absurd hd (hnd a q)
        · exact .inr q
      · refine .inl ?_
        unfold frzG
        rw [h1, if_neg hd]
    · exact .inr h1
end
/-- a result that keeps the store, but for what is new; what is handed out of it is data -/
def KeepsF (r : Res (D × Store)) (p : Pr) (S : Store) : Prop := match p with
  | .ok d => ∃ d' g, r = .ok (d', S ++ g) ∧ Frz S.length (S ++ g) d' d
  | .exc c => ∃ g, r = .exc c (S ++ g)
  | .stuck => True
section
variable {P : Program} {w : World} {K : PySem.W.Frag} {T : List (Addr × Str)} {mg : Str → Option Value} {base : Heap}
theorem fnPF {f : Addr} {fd : FuncData} {ps : List Str} {k n : Nat} {F : Fx} {p : Px1} (h : FnOk P w K mg base (L2N.CX P w) k f fd ps (spF K T n F)) (hp : ∀ ds S, KeepsF (F ds S) (p ds) S) : FnOk P w K mg base (L2N.CX P w) k f fd ps (spF K T n (liftP p)) := by
  refine h.imp fun vs H Q E q => ?_
  obtain ⟨ds, m, G, S, h1, h2, h3, h4⟩ := q
  refine ⟨ds, m, G, S, h1, h2, h3, ?_⟩
  have hk := hp ds S
  unfold liftP at h4
  cases e : p ds with
  | stuck => rw [e] at h4; exact h4.elim
  | exc c =>
    rw [e] at h4 hk
    obtain ⟨g, e2⟩ := hk
    rw [e2]
    intro m' G' H' st sr
    obtain ⟨a, b⟩ := h3.cut st sr
    exact h4 m G' H' b a
  | ok d =>
    rw [e] at h4 hk
    obtain ⟨d', g, e2, hf⟩ := hk
    rw [e2]
    intro v m' G' H' st sr rp
    obtain ⟨a, b⟩ := h3.frz st sr
    rw [← h3.len] at hf
    exact h4 v m _ H' b a (Frz.rp (take_pre st.pre) sr hf rp)
theorem Good.pureF {k : Nat} {f : Addr} {ps : List Str} {F : Fx} (g : Good P w K mg base T k f ps F) {p : Px1} (hp : ∀ ds S, KeepsF (F ds S) (p ds) S) : Good P w K mg base T k f ps (liftP p) := by
  obtain ⟨⟨fd, h, b⟩, kp⟩ := g
  exact ⟨⟨fd, fnPF h hp, b⟩, kp⟩
end
end DL

/-! DL11: readings worked out: one row a construct. -/
namespace DL
open PySem PySem.Spec L2
section
variable {α β : Type} {a : α} {f : α → Res β} {c : Addr} {S S1 : Store} {ρ ρ1 : DEnv} {g : Ax} {s u : Sx} {t t1 : Tx} {f1 f2 f3 fo : Ex} {d : D} {n i j k : Nat} {K : PySem.W.Frag}
@[simp] theorem bind_ok : (Res.ok a).bind f = f a := nr rfl
@[simp] theorem bind_exc : (Res.exc c S : Res α).bind f = .exc c S := nr rfl
@[simp] theorem bind_stuck : (Res.stuck : Res α).bind f = .stuck := nr rfl
theorem bind_ite {p : Prop} [Decidable p] {x y : Res α} : (if p then x else y).bind f = if p then x.bind f else y.bind f := by split <;> rfl
@[simp] theorem ev_C : exC d ρ S = .ok (d, S) := nr rfl
@[simp] theorem ev_V : exV i ρ S = (match ρ[i]? with
  | some (some d) => .ok (d, S)
  | _ => .stuck) := nr rfl
@[simp] theorem ev_2 {g : Store → D → D → Option D} : ex2 g f1 f2 ρ S = (f1 ρ S).bind fun r1 => (f2 ρ r1.2).bind fun r2 => lft r2.2 (g r2.2 r1.1 r2.1) := nr rfl
@[simp] theorem ev_1 {g : D → Option D} : ex1 g f1 ρ S = (f1 ρ S).bind fun r => lft r.2 (g r.1) := nr rfl
@[simp] theorem ev_1S {g : Store → D → Option D} : ex1S g f1 ρ S = (f1 ρ S).bind fun r => lft r.2 (g r.2 r.1) := nr rfl
@[simp] theorem ev_Ch {g g' : Store → D → D → Option D} : exCh g g' f1 f2 f3 ρ S = (f1 ρ S).bind fun r1 => (f2 ρ r1.2).bind fun r2 => match g r2.2 r1.1 r2.1 with
  | some (.bl true) => (f3 ρ r2.2).bind fun r3 => lft r3.2 (g' r3.2 r2.1 r3.1)
  | some (.bl false) => .ok (.bl false, r2.2)
  | _ => .stuck := nr rfl
@[simp] theorem ev_tx : tx f1 ρ S = (f1 ρ S).bind fun r => match r.1 with
  | .bl k => .ok (k, r.2)
  | _ => .stuck := nr rfl
@[simp] theorem ev_txT : txT f1 ρ S = (f1 ρ S).bind fun r => match truD r.2 r.1 with
  | some k => .ok (k, r.2)
  | none => .stuck := nr rfl
@[simp] theorem ev_txAnd : txAnd t t1 ρ S = (t ρ S).bind fun r => if r.1 = true then t1 ρ r.2 else .ok (false, r.2) := nr rfl
@[simp] theorem ev_txOr : txOr t t1 ρ S = (t ρ S).bind fun r => if r.1 = true then .ok (true, r.2) else t1 ρ r.2 := nr rfl
@[simp] theorem ev_txNot : txNot t ρ S = (t ρ S).bind fun r => .ok (!r.1, r.2) := nr rfl
@[simp] theorem ev_txY : txY ρ S = .ok (true, S) := nr rfl
@[simp] theorem ev_If : exIf t f1 f2 ρ S = (t ρ S).bind fun r => if r.1 = true then f1 ρ r.2 else f2 ρ r.2 := nr rfl
@[simp] theorem ev_axN : axN ρ S = .ok ([], S) := nr rfl
@[simp] theorem ev_axC : axC f1 g ρ S = (f1 ρ S).bind fun r => (g ρ r.2).bind fun q => .ok (r.1 :: q.1, q.2) := nr rfl
@[simp] theorem ev_Tup : exTup g ρ S = (g ρ S).bind fun r => if r.1.length ≤ sizeLine then .ok (.tup r.1, r.2) else .stuck := nr rfl
@[simp] theorem ev_Lst : exLst g ρ S = (g ρ S).bind fun r => if r.1.length ≤ sizeLine then .ok (.lst r.1, r.2) else .stuck := nr rfl
@[simp] theorem ev_New : exNew g ρ S = (g ρ S).bind fun r => if r.1.length ≤ sizeLine then .ok (.loc r.2.length, r.2 ++ [.lst r.1]) else .stuck := nr rfl
@[simp] theorem ev_B {gf : Store → List D → Option D} : exB gf g ρ S = (g ρ S).bind fun r => lft r.2 (gf r.2 r.1) := nr rfl
@[simp] theorem ev_F {F : Fx} : exF n F g ρ S = (g ρ S).bind fun r => if r.1.length = n then F r.1 r.2 else .stuck := nr rfl
@[simp] theorem ev_F0 {F : Fx} : ex0 F ρ S = F [] S := nr rfl
@[simp] theorem ev_Isi {c : String} : exIsi c f1 ρ S = (f1 ρ S).bind fun r => match tyD r.2 r.1 with
  | some t => .ok (.bl (isiB c t), r.2)
  | none => .stuck := nr rfl
@[simp] theorem ev_S1 {gs : Store → D → D → Option D} : exS1 gs f1 f2 ρ S = (f1 ρ S).bind fun r => if isStr r.2 r.1 = true then (f2 ρ r.2).bind fun q => lft q.2 (gs q.2 r.1 q.1) else .stuck := nr rfl
@[simp] theorem ev_M {ok : Store → D → Bool} {gm : Store → D → List D → Option (D × Store)} : exM ok gm f1 g ρ S = (f1 ρ S).bind fun r => if ok r.2 r.1 = true then (g ρ r.2).bind fun q => lft2 (gm q.2 r.1 q.1) else .stuck := nr rfl
@[simp] theorem ev_M0 {ok : Store → D → Bool} {gm : Store → D → List D → Option (D × Store)} : exM0 ok gm f1 ρ S = (f1 ρ S).bind fun r => if ok r.2 r.1 = true then lft2 (gm r.2 r.1 []) else .stuck := nr rfl
@[simp] theorem ev_Meth {C : Addr} {m : Str} {F : Fx} : exMeth C m k F fo g ρ S = (fo ρ S).bind fun r => if isIns C r.2 m r.1 = true then (g ρ r.2).bind fun q => if q.1.length + 1 = k then F (r.1 :: q.1) q.2 else .stuck else .stuck := nr rfl
@[simp] theorem ev_Meth0 {C : Addr} {m : Str} {F : Fx} : exMeth0 C m F fo ρ S = (fo ρ S).bind fun r => if isIns C r.2 m r.1 = true then F [r.1] r.2 else .stuck := nr rfl
@[simp] theorem ev_Make {C : Addr} {F : Fx} : exMake C k F g ρ S = (g ρ S).bind fun r => if r.1.length + 1 = k then (F (.loc r.2.length :: r.1) (r.2 ++ [.ins C []])).bind fun q => match q.1 with
    | .non => .ok (.loc r.2.length, q.2)
    | _ => .stuck
  else .stuck := nr rfl
@[simp] theorem ev_oxN : oxN ρ S = .ok (none, S) := nr rfl
@[simp] theorem ev_oxS : oxS f1 ρ S = (f1 ρ S).bind fun r => match r.1 with
  | .int i => .ok (some i, r.2)
  | _ => .stuck := nr rfl
@[simp] theorem ev_Sl {lo hi : Ox} : exSl f1 lo hi ρ S = (f1 ρ S).bind fun r => (lo ρ r.2).bind fun l => (hi ρ l.2).bind fun u => lft u.2 (gSl u.2 r.1 l.1 u.1) := nr rfl
@[simp] theorem ev_And : exAnd f1 f2 ρ S = (f1 ρ S).bind fun r => match r.1 with
  | .bl k => if k = true then f2 ρ r.2 else .ok (.bl false, r.2)
  | _ => .stuck := by
  unfold exAnd
  congr 1
  funext r
  obtain ⟨d, S'⟩ := r
  cases d <;> first | rfl | (rename_i k; cases k <;> rfl)
@[simp] theorem ev_Or : exOr f1 f2 ρ S = (f1 ρ S).bind fun r => match r.1 with
  | .bl k => if k = true then .ok (.bl true, r.2) else f2 ρ r.2
  | _ => .stuck := by
  unfold exOr
  congr 1
  funext r
  obtain ⟨d, S'⟩ := r
  cases d <;> first | rfl | (rename_i k; cases k <;> rfl)
@[simp] theorem ev_seq : sxSeq s u ρ S = (s ρ S).bind fun r => match r.1 with
  | .nx => u r.2.1 r.2.2
  | _ => .ok r := nr rfl
@[simp] theorem ev_nil : sxNil ρ S = .ok (.nx, ρ, S) := nr rfl
@[simp] theorem ev_K {fl : Fl} : sxK fl ρ S = .ok (fl, ρ, S) := nr rfl
@[simp] theorem ev_E : sxE f1 ρ S = (f1 ρ S).bind fun r => .ok (.nx, ρ, r.2) := nr rfl
@[simp] theorem ev_R : sxR f1 ρ S = (f1 ρ S).bind fun r => .ok (.rt r.1, ρ, r.2) := nr rfl
@[simp] theorem ev_RN : sxRN ρ S = .ok (.rt .non, ρ, S) := nr rfl
@[simp] theorem ev_sIf : sxIf t s u ρ S = (t ρ S).bind fun r => if r.1 = true then s ρ r.2 else u ρ r.2 := nr rfl
@[simp] theorem ev_X {C : Addr} : sxX C ρ S = .exc C S := nr rfl
@[simp] theorem ev_A {gt : Gx} : sxA f1 gt ρ S = (f1 ρ S).bind fun r => match gt r.1 ρ with
  | some ρ1 => .ok (.nx, ρ1, r.2)
  | none => .stuck := nr rfl
@[simp] theorem ev_Par : sxPar g i j ρ S = (g ρ S).bind fun r => match r.1 with
  | [x, y] => .ok (.nx, (ρ.set i (some x)).set j (some y), r.2)
  | _ => .stuck := nr rfl
@[simp] theorem ev_Par3 {l : Nat} : sxPar3 g i j l ρ S = (g ρ S).bind fun r => match r.1 with
  | [x, y, z] => .ok (.nx, ((ρ.set i (some x)).set j (some y)).set l (some z), r.2)
  | _ => .stuck := nr rfl
@[simp] theorem ev_Fld {C : Addr} {m : Str} : sxFld C m fo f1 ρ S = (f1 ρ S).bind fun r => (fo ρ r.2).bind fun q => match gSetF C m q.2 q.1 r.1 with
  | some S' => .ok (.nx, ρ, S')
  | none => .stuck := nr rfl
@[simp] theorem ev_gN : gN i d ρ = some (ρ.set i (some d)) := nr rfl
@[simp] theorem ev_gsN : gsN [] ρ = some ρ := nr rfl
@[simp] theorem ev_gsC {gt : Gx} {gs : Gxs} {r : List D} : gsC gt gs (d :: r) ρ = (gt d ρ).bind (gs r) := nr rfl
@[simp] theorem ev_gT {gs : Gxs} {ds : List D} : gT n gs (.tup ds) ρ = if ds.length = n then gs ds ρ else none := nr rfl
@[simp] theorem ev_run {N : Nat} {ds : List D} : runF N s ds S = match s (ds.map some ++ List.replicate (N - ds.length) none) S with
  | .ok (.rt d, _, S') => .ok (d, S')
  | .ok (.nx, _, S') => .ok (.non, S')
  | .ok _ => .stuck
  | .exc c S' => .exc c S'
  | .stuck => .stuck := nr rfl
@[simp] theorem ev_lft2 {q : D × Store} : lft2 (some q) = .ok q := nr rfl
/-! ### operations -/
@[simp] theorem op_add_i {x y : Int} : gAdd S (.int x) (.int y) = some (.int (x + y)) := nr rfl
@[simp] theorem op_sub_i {x y : Int} : gSub S (.int x) (.int y) = some (.int (x - y)) := nr rfl
@[simp] theorem op_add_s {x y : Str} : gAdd S (.str x) (.str y) = if x.length + y.length ≤ sizeLine then some (.str (x ++ y)) else none := nr rfl
@[simp] theorem op_mul_i {x y : Int} : gMul S (.int x) (.int y) = if (Builtin.Int.intBits x : Int) + (Builtin.Int.intBits y : Int) ≤ 134217728 then some (.int (x * y)) else none := nr rfl
@[simp] theorem op_mod_i {x y : Int} : gMod S (.int x) (.int y) = if 0 < y then some (.int (x % y)) else none := nr rfl
@[simp] theorem op_fdiv_i {x y : Int} : gFdiv S (.int x) (.int y) = if 0 < y ∧ y.natAbs.log2 < 9000 then some (.int (x / y)) else none := nr rfl
@[simp] theorem op_lt_i {x y : Int} : gLt S (.int x) (.int y) = some (.bl (decide (x < y))) := nr rfl
@[simp] theorem op_le_i {x y : Int} : gLe S (.int x) (.int y) = some (.bl (decide (x ≤ y))) := nr rfl
@[simp] theorem op_gt_i {x y : Int} : gGt S (.int x) (.int y) = some (.bl (decide (y < x))) := nr rfl
@[simp] theorem op_ge_i {x y : Int} : gGe S (.int x) (.int y) = some (.bl (decide (y ≤ x))) := nr rfl
@[simp] theorem op_eq_i {x y : Int} : gEq S (.int x) (.int y) = some (.bl (x == y)) := nr rfl
@[simp] theorem op_ne_i {x y : Int} : gNe S (.int x) (.int y) = some (.bl (!(x == y))) := nr rfl
@[simp] theorem op_eq_s {x y : Str} : gEq S (.str x) (.str y) = some (.bl (x == y)) := nr rfl
@[simp] theorem op_ne_s {x y : Str} : gNe S (.str x) (.str y) = some (.bl (!(x == y))) := nr rfl
@[simp] theorem op_eq_b {x y : Bool} : gEq S (.bl x) (.bl y) = some (.bl (x == y)) := nr rfl
@[simp] theorem op_ne_b {x y : Bool} : gNe S (.bl x) (.bl y) = some (.bl (!(x == y))) := nr rfl
@[simp] theorem op_not {x : Bool} : gNot (.bl x) = some (.bl (!x)) := nr rfl
@[simp] theorem op_neg {x : Int} : gNeg (.int x) = some (.int (-x)) := nr rfl
@[simp] theorem tru_b {x : Bool} : truD S (.bl x) = some x := nr rfl
@[simp] theorem tru_i {x : Int} : truD S (.int x) = some (x != 0) := nr rfl
@[simp] theorem op_len_t {ds : List D} : gLen S [.tup ds] = some (.int ds.length) := nr rfl
@[simp] theorem op_len_l {ds : List D} : gLen S [.lst ds] = some (.int ds.length) := nr rfl
@[simp] theorem op_len_f {ds : List D} : gLen S [.frz ds] = some (.int ds.length) := nr rfl
theorem op_len_s {x : Str} (h : x.length ≤ sizeLine) : gLen S [.str x] = some (.int (x.length : Int)) := by
  unfold gLen lenD
  simp only [if_pos h, Option.map_some]
  rfl
@[simp] theorem op_int_b {x : Bool} : gInt S [.bl x] = some (.int (if x then 1 else 0)) := nr rfl
@[simp] theorem op_int_i {x : Int} : gInt S [.int x] = some (.int x) := nr rfl
@[simp] theorem op_max2 {x y : Int} : gMax2 S [.int x, .int y] = some (.int (if y > x then y else x)) := nr rfl
@[simp] theorem op_min2 {x y : Int} : gMin2 S [.int x, .int y] = some (.int (if y < x then y else x)) := nr rfl
@[simp] theorem op_abs {x : Int} : gAbs S [.int x] = some (.int (if x < 0 then -x else x)) := nr rfl
@[simp] theorem op_ix_t {ds : List D} {x : Int} : gIx S (.tup ds) (.int x) = atI ds x := nr rfl
@[simp] theorem op_ix_l {ds : List D} {x : Int} : gIx S (.lst ds) (.int x) = atI ds x := nr rfl
@[simp] theorem op_ix_f {ds : List D} {x : Int} : gIx S (.frz ds) (.int x) = atI ds x := nr rfl
@[simp] theorem ty_b {x : Bool} : tyD S (.bl x) = some "bool" := nr rfl
@[simp] theorem ty_i {x : Int} : tyD S (.int x) = some "int" := nr rfl
@[simp] theorem ty_s {x : Str} : tyD S (.str x) = some "str" := nr rfl
@[simp] theorem ty_t {x : List D} : tyD S (.tup x) = some "tuple" := nr rfl
@[simp] theorem ty_l {x : List D} : tyD S (.lst x) = some "list" := nr rfl
@[simp] theorem ty_n : tyD S .non = some "NoneType" := nr rfl
@[simp] theorem ty_d {x : List (Key × D)} : tyD S (.dct x) = some "dict" := nr rfl
end
@[simp] theorem isi_1 : isiB "int" "int" = true := rfl
@[simp] theorem isi_2 : isiB "int" "bool" = true := rfl
@[simp] theorem isi_3 : isiB "bool" "int" = false := rfl
@[simp] theorem isi_4 : isiB "bool" "bool" = true := rfl
@[simp] theorem isi_5 : isiB "str" "str" = true := rfl
@[simp] theorem isi_6 : isiB "tuple" "tuple" = true := rfl
@[simp] theorem isi_7 : isiB "list" "list" = true := rfl
@[simp] theorem isi_8 : isiB "dict" "dict" = true := rfl
theorem at_nat {α : Type} {ds : List α} {n : Nat} (h : n < ds.length) : atI ds (n : Int) = ds[n]? := by
  unfold atI ixN
  rw [if_pos (by omega), if_pos (by omega)]
  simp
@[simp] theorem at_0 {α : Type} {d : α} {ds : List α} : atI (d :: ds) 0 = some d := at_nat (n := 0) (by simp)
@[simp] theorem at_1 {α : Type} {d e : α} {ds : List α} : atI (d :: e :: ds) 1 = some e := at_nat (n := 1) (by simp)
@[simp] theorem at_2 {α : Type} {d e f : α} {ds : List α} : atI (d :: e :: f :: ds) 2 = some f := at_nat (n := 2) (by simp)
@[simp] theorem size0 : 0 ≤ sizeLine := Nat.zero_le _
@[simp] theorem size1 : 1 ≤ sizeLine := by decide
@[simp] theorem size2 : 2 ≤ sizeLine := by decide
@[simp] theorem size3 : 3 ≤ sizeLine := by decide
/-- factors of few bits -/
theorem bits_ok {x y : Int} {a b : Nat} (ha : x.natAbs < 2 ^ a) (hb : y.natAbs < 2 ^ b) (h : a + b ≤ 134217728) : (Builtin.Int.intBits x : Int) + (Builtin.Int.intBits y : Int) ≤ 134217728 := mulx_ok ha hb h
end DL
namespace DL
open PySem PySem.Spec L2
section
variable {g : Gx} {t : Tx} {fe : Ex} {ck : Option (Nat × List D)} {ρ : DEnv} {S : Store}
/-- a comprehension that only looks -/
theorem lcL_fm {p : D → Bool} {h : D → D} (hk : ckB ck S = true) : ∀ (ds acc : List D), (∀ d ∈ ds, ∃ ρ1, g d ρ = some ρ1 ∧ t ρ1 S = .ok (p d, S) ∧ (p d = true → fe ρ1 S = .ok (h d, S))) → acc.length + ds.length ≤ sizeLine → lcL g t fe ck ρ ds acc S = .ok (acc ++ (ds.filter p).map h, S)
  | [], acc, _, _ => by simp [lcL]
  | d :: ds, acc, hd, hl => by
    obtain ⟨ρ1, e1, e2, e3⟩ := hd d List.mem_cons_self
    have hl2 : acc.length + (ds.length + 1) ≤ sizeLine := by simpa using hl
    unfold lcL
    rw [e1]
    dsimp only
    rw [e2]
    cases hp : p d with
    | true =>
      dsimp only
      rw [e3 hp]
      dsimp only
      rw [if_pos ⟨hk, by omega⟩, lcL_fm hk ds _ (fun x hx => hd x (List.mem_cons_of_mem _ hx)) (by rw [List.length_append, List.length_singleton]; omega)]
      simp [List.filter_cons, hp]
    | false =>
      dsimp only
      rw [if_pos hk, lcL_fm hk ds _ (fun x hx => hd x (List.mem_cons_of_mem _ hx)) (by omega)]
      simp [List.filter_cons, hp]
theorem lcL_map {h : D → D} (hk : ckB ck S = true) (ds acc : List D) (hd : ∀ d ∈ ds, ∃ ρ1, g d ρ = some ρ1 ∧ t ρ1 S = .ok (true, S) ∧ fe ρ1 S = .ok (h d, S)) (hl : acc.length + ds.length ≤ sizeLine) : lcL g t fe ck ρ ds acc S = .ok (acc ++ ds.map h, S) := by
  have e := lcL_fm (g := g) (t := t) (fe := fe) (ck := ck) (ρ := ρ) (S := S) (p := fun _ => true) (h := h) hk ds acc (fun d hm => by obtain ⟨ρ1, a, b, c⟩ := hd d hm; exact ⟨ρ1, a, b, fun _ => c⟩) hl
  rw [e, List.filter_eq_self.mpr (fun _ _ => rfl)]
/-- the same of items that come of a list -/
theorem lcL_mapOf {α : Type} {f : α → D} {h : α → D} (hk : ckB ck S = true) : ∀ (xs : List α) (acc : List D), (∀ x ∈ xs, ∃ ρ1, g (f x) ρ = some ρ1 ∧ t ρ1 S = .ok (true, S) ∧ fe ρ1 S = .ok (h x, S)) → acc.length + xs.length ≤ sizeLine → lcL g t fe ck ρ (xs.map f) acc S = .ok (acc ++ xs.map h, S)
  | [], acc, _, _ => by simp [lcL]
  | d :: ds, acc, hd, hl => by
    obtain ⟨ρ1, e1, e2, e3⟩ := hd d List.mem_cons_self
    have hl2 : acc.length + (ds.length + 1) ≤ sizeLine := by simpa using hl
    rw [List.map_cons]
    unfold lcL
    rw [e1]
    dsimp only
    rw [e2]
    dsimp only
    rw [e3]
    dsimp only
    rw [if_pos ⟨hk, by omega⟩, lcL_mapOf hk ds _ (fun x hx => hd x (List.mem_cons_of_mem _ hx)) (by rw [List.length_append, List.length_singleton]; omega)]
    simp
/-- a loop of items that come of a list, by what each turn makes of the state -/
theorem forL_of {α : Type} {f : α → D} {s : Sx} {I : List α → DEnv → Store → Prop} {R : Res (Fl × DEnv × Store) → Prop} : ∀ (xs : List α) (ρ : DEnv) (S : Store), I xs ρ S →
    (∀ x xs ρ S, I (x :: xs) ρ S → ∃ ρ1, g (f x) ρ = some ρ1 ∧ ((∃ fl ρ2 S2, s ρ1 S = .ok (fl, ρ2, S2) ∧ (match fl with
      | .nx => ckB ck S2 = true ∧ I xs ρ2 S2
      | .ct => ckB ck S2 = true ∧ I xs ρ2 S2
      | .bk => R (.ok (.nx, ρ2, S2))
      | .rt d => R (.ok (.rt d, ρ2, S2)))) ∨ (∃ c S2, s ρ1 S = .exc c S2 ∧ R (.exc c S2)))) → (∀ ρ S, I [] ρ S → R (.ok (.nx, ρ, S))) → R (forL g s ck (xs.map f) ρ S)
  | [], ρ, S, hI, _, hn => hn ρ S hI
  | x :: xs, ρ, S, hI, hs, hn => by
    obtain ⟨ρ1, e1, h⟩ := hs x xs ρ S hI
    rw [List.map_cons]
    unfold forL
    rw [e1]
    dsimp only
    rcases h with ⟨fl, ρ2, S2, e2, h⟩ | ⟨c, S2, e2, h⟩
    · rw [e2]
      cases fl with
      | nx => exact (show R (if ckB ck S2 = true then _ else _) from by rw [if_pos h.1]; exact forL_of xs ρ2 S2 h.2 hs hn)
      | ct => exact (show R (if ckB ck S2 = true then _ else _) from by rw [if_pos h.1]; exact forL_of xs ρ2 S2 h.2 hs hn)
      | bk => exact h
      | rt d => exact h
    · rw [e2]
      exact h
end
end DL

/-! DL12: == of data; numbers of few bits. -/
namespace DL
open PySem PySem.Spec L2
section
variable {S : Store}
/-- what reads as the same is equal -/
theorem eqG_refl {x y : D} {p : PyData} (hx : toP (deref S x) = some p) (hy : toP (deref S y) = some p) (hs : SeqAt.shaped p = true) : eqG S x y = some true := by
  have hr : PyData.eqv p p = true := SeqAt.eqv_refl p (SeqAt.canLay_of_shaped hs)
  unfold eqG
  cases e : eqF x y with
  | some b =>
    dsimp only
    have : b = true := by
      cases x <;> cases y <;> simp only [eqF, reduceCtorEq, Option.some.injEq] at e <;> simp only [deref, toP, Option.some.injEq] at hx hy <;> subst hx <;> first | exact e.symm | (simp only [PyData.bool.injEq, PyData.int.injEq, PyData.str.injEq] at hy; subst hy; rw [← e]; simp) | cases hy
    rw [this]
  | none =>
    dsimp only
    have hd : dctOf S x = none := by
      cases x with
      | dct ks => simp [deref, toP] at hx
      | loc n =>
        have hx : toP (derefC n S[n]?) = some p := hx
        show cellK S[n]? = none
        cases e2 : S[n]? with
        | none => rfl
        | some c =>
          rw [e2] at hx
          cases c with
          | dct ks => simp [derefC, toP] at hx
          | _ => rfl
      | _ => rfl
    rw [hd]
    dsimp only
    rw [hx, hy]
    dsimp only
    rw [hs, hr]
    rfl
theorem gEq_refl {x y : D} {p : PyData} (hx : toP (deref S x) = some p) (hy : toP (deref S y) = some p) (hs : SeqAt.shaped p = true) : gEq S x y = some (.bl true) := by unfold gEq; rw [eqG_refl hx hy hs]; rfl
theorem gNe_refl {x y : D} {p : PyData} (hx : toP (deref S x) = some p) (hy : toP (deref S y) = some p) (hs : SeqAt.shaped p = true) : gNe S x y = some (.bl false) := by unfold gNe; rw [eqG_refl hx hy hs]; rfl
theorem lay_all : ∀ {ps : List PyData}, (∀ p ∈ ps, p.canLay0 = true) → PyData.canLayAll0 ps = true
  | [], _ => by simp [PyData.canLayAll0]
  | p :: r, h => by
    simp only [PyData.canLayAll0, Bool.and_eq_true]
    exact ⟨h p List.mem_cons_self, lay_all fun q hq => h q (List.mem_cons_of_mem _ hq)⟩
theorem depth_all {n : Nat} : ∀ {ps : List PyData}, (∀ p ∈ ps, p.depth ≤ n) → PyData.depthAll ps ≤ n
  | [], _ => by simp [PyData.depthAll]
  | p :: r, h => by
    simp only [PyData.depthAll]
    have h1 := h p List.mem_cons_self
    have h2 := depth_all (ps := r) fun q hq => h q (List.mem_cons_of_mem _ hq)
    omega
theorem shaped_list {ps : List PyData} (h : ∀ p ∈ ps, p.canLay0 = true ∧ p.depth ≤ 60) : SeqAt.shaped (.list ps) = true := by
  show ((PyData.list ps).canLay0 && decide ((PyData.list ps).depth ≤ 64)) = true
  have h1 := lay_all fun p hp => (h p hp).1
  have h2 := depth_all (n := 60) fun p hp => (h p hp).2
  simp only [PyData.canLay0, h1, PyData.depth, Bool.true_and]
  exact decide_eq_true (by omega)
theorem toPs_of {α : Type} {f : α → D} {h : α → PyData} (e : ∀ x, toP (f x) = some (h x)) : ∀ xs : List α, toPs (xs.map f) = some (xs.map h)
  | [] => rfl
  | x :: xs => by
    simp only [List.map_cons, toPs, e x, toPs_of e xs]
theorem toPs_int (ns : List Int) : toPs (ns.map .int) = some (ns.map .int) := toPs_of (fun _ => rfl) ns
/-- the script against [] -/
theorem eq_nilF (ns : List Int) : gEq S (.frz (ns.map .int)) (.lst []) = some (.bl ns.isEmpty) := by
  have hs : SeqAt.shaped (.list (ns.map PyData.int)) = true := shaped_list fun p hp => by
    obtain ⟨n, _, rfl⟩ := List.mem_map.mp hp
    exact ⟨by simp [PyData.canLay0], by simp [PyData.depth]⟩
  have e1 : eqG S (.frz (ns.map .int)) (.lst []) = if SeqAt.shaped (.list (ns.map PyData.int)) && SeqAt.shaped (.list []) then some (PyData.eqv (.list (ns.map PyData.int)) (.list [])) else none := by
    unfold eqG
    simp only [eqF, dctOf, deref, toP, toPs_int, toPs, Option.map_some]
  unfold gEq
  rw [e1, hs]
  have e2 : PyData.eqv (.list (ns.map PyData.int)) (.list []) = ns.isEmpty := by
    cases ns <;> simp [PyData.eqv, PyData.eqvAll]
  rw [e2]
  rfl
end
/-! ### bits -/
theorem natAbs_mul_lt {a b : Int} {x y : Nat} (ha : a.natAbs < 2 ^ x) (hb : b.natAbs < 2 ^ y) : (a * b).natAbs < 2 ^ (x + y) := by
  rw [Int.natAbs_mul, Nat.pow_add]
  exact Nat.mul_lt_mul'' ha hb
theorem natAbs_add_lt {a b : Int} {x : Nat} (ha : a.natAbs < 2 ^ x) (hb : b.natAbs < 2 ^ x) : (a + b).natAbs < 2 ^ (x + 1) := by
  have := Int.natAbs_add_le a b
  rw [Nat.pow_succ]
  omega
theorem lt_up {a : Int} {x y : Nat} (h : a.natAbs < 2 ^ x) (hx : x ≤ y) : a.natAbs < 2 ^ y := Nat.lt_of_lt_of_le h (Nat.pow_le_pow_right (by decide) hx)
theorem bits_lt {z : Int} {n : Nat} (h : Builtin.Int.intBits z ≤ n) : z.natAbs < 2 ^ n := by
  have h2 : z.natAbs < 2 ^ (Builtin.Int.intBits z) := by
    unfold Builtin.Int.intBits
    split
    · rename_i h0
      have : z = 0 := by simpa using h0
      subst this
      decide
    · exact Nat.lt_log2_self
  exact Nat.lt_of_lt_of_le h2 (Nat.pow_le_pow_right (by decide) h)
theorem log_small {n : Nat} (h : n < 9000) : n.log2 < 9000 := Nat.lt_of_le_of_lt (Nat.log2_le_self n) h
@[simp] theorem lg2 : Nat.log2 2 < 9000 := by decide +kernel
@[simp] theorem lg3 : Nat.log2 3 < 9000 := by decide +kernel
@[simp] theorem lg8 : Nat.log2 8 < 9000 := by decide +kernel
@[simp] theorem lg16 : Nat.log2 16 < 9000 := by decide +kernel
@[simp] theorem lg32 : Nat.log2 32 < 9000 := by decide +kernel
@[simp] theorem lg64 : Nat.log2 64 < 9000 := by decide +kernel
@[simp] theorem lg512 : Nat.log2 512 < 9000 := by decide +kernel
@[simp] theorem lg4096 : Nat.log2 4096 < 9000 := by decide +kernel
@[simp] theorem lg32768 : Nat.log2 32768 < 9000 := by decide +kernel
@[simp] theorem lg262144 : Nat.log2 262144 < 9000 := by decide +kernel
@[simp] theorem lgQ : Nat.log2 18446744073709551557 < 9000 := by decide +kernel
/-! ### the law's cell and its draws -/
def mA : Int := 340282366920938463463374607431768211507
/-- the k-th cell -/
def cellZ (ns : List Int) (k : Nat) : Int := if ns.isEmpty then (k : Int) * 7919 else ns.getD (k % ns.length) 0 + ((k / ns.length : Nat) : Int) * 104729
theorem cellZ_lt {ns : List Int} (hb : ∀ z ∈ ns, Builtin.Int.intBits z ≤ 1048576) {k : Nat} (hk : k < 1024) : (cellZ ns k).natAbs < 2 ^ 1048578 := by
  unfold cellZ
  have hk2 : ∀ j : Nat, j < 1024 → ((j : Int) * 104729).natAbs < 2 ^ 1048577 := fun j hj => by
    have := natAbs_mul_lt (a := (j : Int)) (b := 104729) (x := 10) (y := 20) (by rw [Int.natAbs_natCast]; exact hj) (by decide)
    exact lt_up this (by decide)
  split
  · have := natAbs_mul_lt (a := (k : Int)) (b := 7919) (x := 10) (y := 20) (by rw [Int.natAbs_natCast]; exact hk) (by decide)
    exact lt_up this (by decide)
  · rename_i hne
    have hl : 0 < ns.length := by
      cases ns with
      | nil => exact absurd rfl hne
      | cons _ _ => simp
    have hm : k % ns.length < ns.length := Nat.mod_lt _ hl
    have e : ns.getD (k % ns.length) 0 = ns[k % ns.length] := by simp [List.getD, hm]
    have h1 : (ns.getD (k % ns.length) 0).natAbs < 2 ^ 1048577 := by
      rw [e]
      exact lt_up (bits_lt (hb _ (List.getElem_mem hm))) (by decide)
    exact natAbs_add_lt h1 (hk2 _ (Nat.lt_of_le_of_lt (Nat.div_le_self _ _) hk))
/-- a draw -/
def drawZ (c k : Int) : Int :=
  let m1 := (c * 6364136223846793005 + (k + 1) * 1442695040888963407) % 340282366920938463463374607431768211507
  let m2 := m1 * m1 % 340282366920938463463374607431768211297
  let m3 := (m2 % 18446744073709551557 + 1) * (m2 / 18446744073709551557 + 1) * m2
  m3 % 340282366920938463463374607431768211507
theorem drawZ_in (c k : Int) : 0 ≤ drawZ c k ∧ drawZ c k < 340282366920938463463374607431768211507 := ⟨Int.emod_nonneg _ (by decide), Int.emod_lt_of_pos _ (by decide)⟩
end DL

/-! DL13: text[::-1]. -/
namespace L2
open PySem PySem.Spec PyProof.Rows
def revS (z : Str) : Str := ⟨z.cps.toList.reverse.toArray⟩
theorem revS_length (z : Str) : (revS z).length = z.length := by
  show z.cps.toList.reverse.toArray.size = z.cps.size
  simp
theorem strRev_pick (z : Str) : ((Builtin.Str.strSliceIndices none none (-1) z.length).filterMap (z.cps[·]?)).toArray = z.cps.toList.reverse.toArray := by
  have e : Builtin.Str.strSliceIndices none none (-1) z.length = (List.range z.cps.size).map fun k => z.cps.size - 1 - k := by
    unfold Builtin.Str.strSliceIndices
    exact PySem.W.krv_sliceRange z.cps.size
  rw [e, PySem.W.krv_range, List.filterMap_reverse, PySem.W.krv_all]
def tRevS (te : TE) : TE := fun σ H Q => te σ H fun x H1 => ∃ z, x = .str z ∧ z.length ≤ sizeLine ∧ Q (.str (revS z)) H1
theorem pe_revS {X : Cx} {e : Expr} {te : TE} {k : Nat} {p1 p2 p3 pos : Pos} (he : PE X e te) : PE X (.Subscript e (.Slice none none (some (.UnaryOp .USub (.Constant (.int 1) k p1) p2)) p3) pos) (tRevS te) := by
  refine ⟨fun pins s σ H Q I h => ?_⟩
  refine Subscript_ (thn (he.run pins s σ H _ I h) fun v s1 ⟨x, H1, I1, r1, q1⟩ => ?_)
  obtain ⟨z, ex, hz, q⟩ := q1
  subst ex
  obtain ⟨t, rfl⟩ := r1
  have hst : PO X (some (.UnaryOp .USub (.Constant (.int 1) k p1) p2)) (tPart (tUn (rU fun i => .int (-i)) (tC (.int 1)))) := po_some (pe_un un_neg pe_int)
  refine wpAny_Slice (thn (po_none.run pins s1 σ H1 (fun o H2 => o = none ∧ H2 = H1) I1 ⟨rfl, rfl⟩) fun vl s2 ⟨l, H2, I2, pl, el, e2⟩ => ?_)
  subst el e2
  refine thn (po_none.run pins s2 σ H2 (fun o H3 => o = none ∧ H3 = H2) I2 ⟨rfl, rfl⟩) fun vu s3 ⟨u, H3, I3, pu, eu, e3⟩ => ?_
  subst eu e3
  refine thn (hst.run pins s3 σ H3 (fun o H4 => o = some (-1) ∧ H4 = H3) I3 ⟨1, rfl, -1, rfl, rfl, rfl⟩) fun vs s4 ⟨o, H4, I4, ps, eo, e4⟩ => ?_
  subst eo e4
  have I5 : Inv X pins σ H4 { s4 with heap := s4.heap.push { cls := .type "slice", data := .fields #[vl, vu, vs] } } := I4.kept (t' := s4.toks) fun b ob q => Heap.get?_push_of_some _ q
  obtain ⟨l', rfl, hl'⟩ := IsPart.raw pl
  obtain ⟨u', rfl, hu'⟩ := IsPart.raw pu
  obtain ⟨st', rfl, hs'⟩ := IsPart.raw ps
  have el : l' = none := by cases l' <;> first | rfl | cases hl'
  have eu : u' = none := by cases u' <;> first | rfl | cases hu'
  subst el eu
  obtain ⟨⟨i, ti⟩, rfl, ei⟩ : ∃ p, st' = some p ∧ p.1 = -1 := by
    cases st' with
    | none => cases hs'
    | some p => exact ⟨p, rfl, by simpa using hs'⟩
  dsimp only at ei
  subst ei
  refine tail_any (T := "str") (ops := [.str z t, .ref s4.heap.objs.size]) (typeIs_str _ _ _) F.slot_str_getitem.lookup ?_ (by with_unfolding_all rfl)
  refine wpAny_getItem_str_slice (l := none) (u := none) (st := some (-1, ti)) ⟨_, Heap.get?_push_size _ rfl, rfl, rfl⟩ rfl ?_
  have em : sliceMade z t none none (some (-1, ti)) = Made.str (revS z) := by
    unfold sliceMade
    rw [if_neg (by simp)]
    show Made.str ⟨((Builtin.Str.strSliceIndices none none (-1) z.length).filterMap (z.cps[·]?)).toArray⟩ = _
    rw [strRev_pick]
    rfl
  rw [em]
  exact ⟨by have := revS_length z; show (revS z).length ≤ _; omega, .str (revS z), _, I5.tok _, ⟨_, rfl⟩, q⟩
end L2
namespace DL
open PySem PySem.Spec L2
def gRevA (S : Store) (x : D) : Option D := match x with
  | .str z => if z.length ≤ sizeLine then some (.str (revS z)) else none
  | x => gRev S x
section
variable {X : Cx} {T : List (Addr × Str)} {W : WX} {e : Expr} {f : Ex} {pos : Pos}
theorem de_revA {k : Nat} {p1 p2 p3 : Pos} (ha : DE X T W e f) : DE X T W (.Subscript e (.Slice none none (some (.UnaryOp .USub (.Constant (.int 1) k p1) p2)) p3) pos) (ex1S gRevA f) := by
  refine ⟨PE.imp (PE.or (de_rev (pos := pos) (k := k) (p1 := p1) (p2 := p2) (p3 := p3) ha).pe (pe_revS (pos := pos) (k := k) (p1 := p1) (p2 := p2) (p3 := p3) ha.pe)) fun σ H Q ⟨ρ, m, G, S, hh, h⟩ => ?_⟩
  cases e0 : f ρ S with
  | stuck =>
    unfold ex1S at h
    rw [e0] at h
    exact h.elim
  | exc c S' =>
    unfold ex1S at h
    rw [e0] at h
    refine .inl ⟨ρ, m, G, S, hh, ?_⟩
    unfold ex1S
    rw [e0]
    exact h
  | ok r =>
    obtain ⟨d, S1⟩ := r
    have hne : (∀ z, d ≠ .str z) → tE X.K T W (ex1S gRev f) σ H Q := fun hn => by
      refine ⟨ρ, m, G, S, hh, ?_⟩
      unfold ex1S at h ⊢
      rw [e0] at h ⊢
      have : gRevA S1 d = gRev S1 d := by
        unfold gRevA
        cases d <;> first | rfl | exact absurd rfl (hn _)
      have h' : Wants (lft S1 (gRevA S1 d)) (PostE X.K T m G H Q) (PostX X.K T W σ m G H) := h
      rw [this] at h'
      exact h'
    cases d with
    | str z =>
      refine .inr ⟨ρ, m, G, S, hh, ?_⟩
      unfold ex1S at h
      rw [e0] at h ⊢
      have h' : Wants (lft S1 (if z.length ≤ sizeLine then some (.str (revS z)) else none)) (PostE X.K T m G H Q) (PostX X.K T W σ m G H) := h
      split at h'
      case isFalse => exact h'.elim
      case isTrue hz =>
        intro v m' G' H' st sr rp
        cases rp
        exact ⟨z, rfl, hz, h' _ m' G' H' st sr (.str _)⟩
    | _ => exact .inl (hne fun z q => by cases q)
end
@[simp] theorem op_rev_l {S : Store} {ds : List D} : gRevA S (.lst ds) = some (.lst ds.reverse) := nr rfl
end DL

/-! DL14: a dict of the module that is keyed by True and False. -/
namespace DL
open PySem PySem.Spec L2
def tupAt (K : PySem.W.Frag) (v : Value) (ts : List He.Dv) : Bool := match v with
  | .ref a => (match K.lookup a with
    | some ⟨.type c, _, .seq its _, _⟩ => decide (c = "tuple") && (decide (its.size ≤ sizeLine) && He.relAll (ts.map (He.Dv.v K)) its.toList)
    | _ => false)
  | _ => false
theorem tupAt_ok {K : PySem.W.Frag} {v : Value} {ts : List He.Dv} (h : tupAt K v ts = true) : ∃ a, v = .ref a ∧ ∀ H, SqT K H a (ts.map (He.Dv.v K)) := by
  unfold tupAt at h
  cases v with
  | ref a =>
    dsimp only at h
    cases q : K.lookup a with
    | none => rw [q] at h; cases h
    | some o =>
      obtain ⟨oc, od, dt, osl⟩ := o
      rw [q] at h
      cases oc with
      | type c =>
        cases dt with
        | seq its n =>
          obtain ⟨h1, h2⟩ := He.ba (show (decide (c = "tuple") && (decide (its.size ≤ sizeLine) && He.relAll (ts.map (He.Dv.v K)) its.toList)) = true from h)
          obtain ⟨h3, h4⟩ := He.ba h2
          exact ⟨a, rfl, fun H => .inr ⟨_, its, n, q, congrArg Value.type (of_decide_eq_true h1), rfl, of_decide_eq_true h3, He.relAll_ok h4⟩⟩
        | _ => cases h
      | _ => cases dt <;> cases h
  | _ => cases h
def bdB (K : PySem.W.Frag) (x : Str) (ts fs : List He.Dv) : Bool := match K.lookup (He.ga K x) with
  | some ⟨.type c, none, .dict es _, sl⟩ => decide (c = "dict") && (sl.isEmpty && (match es.toList with
    | [⟨h1, .bool true, v1⟩, ⟨h0, .bool false, v0⟩] => decide (h1 = 1) && (decide (h0 = 0) && (tupAt K v1 ts && tupAt K v0 fs))
    | _ => false))
  | _ => false
theorem bdB_ok {K : PySem.W.Frag} {x : Str} {ts fs : List He.Dv} (h : bdB K x ts fs = true) : ∃ es n v1 v0, K.lookup (He.ga K x) = some ⟨.type "dict", none, .dict es n, #[]⟩ ∧ es.toList = [⟨1, .bool true, v1⟩, ⟨0, .bool false, v0⟩] ∧ tupAt K v1 ts = true ∧ tupAt K v0 fs = true := by
  unfold bdB at h
  split at h
  · rename_i c es n sl q
    obtain ⟨h1, h2⟩ := He.ba h
    obtain ⟨h3, h4⟩ := He.ba h2
    have e1 : c = "dict" := of_decide_eq_true h1
    have e2 : sl = #[] := Array.isEmpty_iff.mp h3
    subst e1 e2
    split at h4
    · rename_i k1 v1 k0 v0 e
      obtain ⟨h5, h6⟩ := He.ba h4
      obtain ⟨h7, h8⟩ := He.ba h6
      obtain ⟨h9, h10⟩ := He.ba h8
      have a1 : k1 = 1 := of_decide_eq_true h5
      have a0 : k0 = 0 := of_decide_eq_true h7
      subst a1 a0
      exact ⟨es, n, v1, v0, q, e, h9, h10⟩
    · cases h4
  · cases h
example (P : Program) (w : World) : (leafKind P w).hash (.num 1) = 1 := rfl
def rBd (K : PySem.W.Frag) (x : Str) (ts fs : List He.Dv) : R2 := fun v u H Q => ∃ b, v = .ref (He.ga K x) ∧ u = .bl b ∧ bdB K x ts fs = true ∧ ∀ a, (∀ H, SqT K H a ((if b then ts else fs).map (He.Dv.v K))) → Q (.ref a) H
theorem ix_bd {X : Cx} {x : Str} {ts fs : List He.Dv} : IxR X (rBd X.K x ts fs) := by
  intro value slice pins s σ H vx y v u Q I rx ry h hs
  obtain ⟨b, rfl, rfl, hb, q⟩ := h
  obtain ⟨es, n, v1, v0, hl, he, t1, t0⟩ := bdB_ok hb
  obtain rfl : v = Value.ref (He.ga X.K x) := rx
  obtain rfl : u = Value.bool b := ry
  have ho := I.kIn _ _ hl
  have hm : s.heap.MapOf (leafKind X.prog X.w) (He.ga X.K x) (findBy (leafKind X.prog X.w).is es) := ⟨_, es, n, ho, ⟨rfl, rfl, rfl⟩, rfl, fun e hE => by
    have hE' : e ∈ es.toList := Array.mem_toList_iff.mpr hE
    rw [he] at hE'
    simp only [List.mem_cons, List.not_mem_nil, or_false] at hE'
    rcases hE' with rfl | rfl
    · exact ⟨.num 1, rfl, rfl⟩
    · exact ⟨.num 0, rfl, rfl⟩, fun _ => rfl⟩
  have hes : es = #[⟨1, .bool true, v1⟩, ⟨0, .bool false, v0⟩] := Array.ext' (by rw [he])
  cases b with
  | true =>
    obtain ⟨a, rfl, ha⟩ := tupAt_ok t1
    refine PyProof.Rows.tail_any hm.typeIs PySem.slot_dict_getitem.lookup (wpAny_getItem_of (k := Leaf.num 1) (v := .ref a) rfl hm (by rw [hes]; rfl) ⟨.ref a, H, I.tok _, rfl, q a ha⟩) hs
  | false =>
    obtain ⟨a, rfl, ha⟩ := tupAt_ok t0
    refine PyProof.Rows.tail_any hm.typeIs PySem.slot_dict_getitem.lookup (wpAny_getItem_of (k := Leaf.num 0) (v := .ref a) rfl hm (by rw [hes]; rfl) ⟨.ref a, H, I.tok _, rfl, q a ha⟩) hs
def exBd (ts fs : List D) (f : Ex) : Ex := fun ρ S => (f ρ S).bind fun r => match r.1 with
  | .bl b => .ok (.tup (if b then ts else fs), r.2)
  | _ => .stuck
section
variable {X : Cx} {T : List (Addr × Str)} {W : WX} {e : Expr} {f : Ex} {pos p : Pos}
theorem de_bdix {x : Str} {ts fs : List He.Dv} (hm : X.mg x = some (.ref (He.ga X.K x))) (hb : bdB X.K x ts fs = true) (h1 : ts.all dvOk = true) (h0 : fs.all dvOk = true) (hg : Gl X x) (ha : DE X T W e f) (hs : PlainIx e := by exact fun _ _ => rfl) (hd : (x == ("__debug__" : Str)) = false := by decide) :
    DE X T W (.Subscript (.Name x p) e pos) (exBd (ts.map dvD) (fs.map dvD) f) := by
  refine ⟨PE.imp (pe_ix (ix_bd (x := x) (ts := ts) (fs := fs)) (pe_glob (v := .ref (He.ga X.K x)) hg hm rfl hd) ha.pe hs) fun σ H Q ⟨ρ, m, G, S, hh, h⟩ => ?_⟩
  show tE X.K T W f σ H _
  refine tE.bind hh h (fun _ _ q => q) fun d S1 v m1 G1 H1 st1 hh1 rx h1' => ?_
  have h2 := h1'.nextE hh.2 st1
  cases rx with
  | bl b =>
    refine ⟨b, rfl, rfl, hb, fun a hS => ?_⟩
    refine PostE.same h2 hh1.2 (.tup (hS G1) ?_)
    cases b with
    | true => exact rp_dvs h1
    | false => exact rp_dvs h0
  | _ => exact (show False from h2).elim
end
@[simp] theorem ev_Bd {ts fs : List D} {f : Ex} {ρ : DEnv} {S : Store} : exBd ts fs f ρ S = (f ρ S).bind fun r => match r.1 with
  | .bl b => .ok (.tup (if b then ts else fs), r.2)
  | _ => .stuck := nr rfl
end DL

/-! DL15: loops by what every turn keeps; a list that a loop fills, handed out. -/
namespace DL
open PySem PySem.Spec L2
section
variable {α : Type} {f : α → D} {g : Gx} {s : Sx} {ck : Option (Nat × List D)}
/-- a loop whose turns keep I of what was taken -/
theorem forL_pre (xs : List α) {I : List α → DEnv → Store → Prop} {ρ : DEnv} {S : Store} (h0 : I [] ρ S)
    (h : ∀ (pre : List α) (x : α) (post : List α), xs = pre ++ x :: post → ∀ ρ S, I pre ρ S → ∃ ρ1, g (f x) ρ = some ρ1 ∧ ∃ ρ2 S2, (s ρ1 S = .ok (.nx, ρ2, S2) ∨ s ρ1 S = .ok (.ct, ρ2, S2)) ∧ ckB ck S2 = true ∧ I (pre ++ [x]) ρ2 S2) :
    ∃ ρ' S', forL g s ck (xs.map f) ρ S = .ok (.nx, ρ', S') ∧ I xs ρ' S' := by
  have key : ∀ (post pre : List α) (ρ : DEnv) (S : Store), xs = pre ++ post → I pre ρ S → ∃ ρ' S', forL g s ck (post.map f) ρ S = .ok (.nx, ρ', S') ∧ I xs ρ' S' := by
    intro post
    induction post with
    | nil => intro pre ρ S e i; exact ⟨ρ, S, rfl, by rw [e, List.append_nil]; exact i⟩
    | cons x post ih =>
      intro pre ρ S e i
      obtain ⟨ρ1, e1, ρ2, S2, e2, e3, i2⟩ := h pre x post e ρ S i
      obtain ⟨ρ', S', e4, i3⟩ := ih (pre ++ [x]) ρ2 S2 (by rw [e]; simp) i2
      refine ⟨ρ', S', ?_, i3⟩
      rw [List.map_cons, forL, e1]
      rcases e2 with e2 | e2 <;> (simp only [e2, Res.bind_ok]; rw [if_pos e3]; exact e4)
  exact key xs [] ρ S rfl h0
/-- the same without what was taken -/
theorem forL_all (xs : List α) {I : DEnv → Store → Prop} {ρ : DEnv} {S : Store} (h0 : I ρ S)
    (h : ∀ x ∈ xs, ∀ ρ S, I ρ S → ∃ ρ1, g (f x) ρ = some ρ1 ∧ ∃ ρ2 S2, s ρ1 S = .ok (.nx, ρ2, S2) ∧ I ρ2 S2) :
    ∃ ρ' S', forL g s none (xs.map f) ρ S = .ok (.nx, ρ', S') ∧ I ρ' S' :=
  forL_pre (ck := none) xs (I := fun _ => I) h0 fun pre x post e ρ S i => by
    obtain ⟨ρ1, e1, ρ2, S2, e2, i2⟩ := h x (by rw [e]; simp) ρ S i
    exact ⟨ρ1, e1, ρ2, S2, .inl e2, rfl, i2⟩
end
def natD (n : Nat) : D := .int (n : Int)
theorem range_nat (n : Nat) : rangeD 0 n = (List.range n).map natD := by unfold rangeD natD; simp
theorem rangeD_map (lo : Int) (n : Nat) : rangeD lo n = (List.range n).map fun i : Nat => .int (lo + i) := rfl
/-- the last cell of the store -/
theorem get_end {S : Store} {c : Cell} : (S ++ [c])[S.length]? = some c := by rw [List.getElem?_append_right (Nat.le_refl _)]; simp
theorem app_end {S : Store} {acc : List D} {d : D} (h : acc.length < sizeLine) : gAppend (S ++ [.lst acc]) (.loc S.length) [d] = some (.non, S ++ [.lst (acc ++ [d])]) := by
  unfold gAppend
  simp only [get_end, cellL]
  rw [if_pos h, List.set_append_right _ _ (Nat.le_refl _)]
  simp
theorem ext_end {S : Store} {acc ds : List D} (h : acc.length + ds.length ≤ sizeLine) : gExtend (S ++ [.lst acc]) (.loc S.length) [.lst ds] = some (.non, S ++ [.lst (acc ++ ds)]) := by
  unfold gExtend
  simp only [get_end, cellL, lstX_lst]
  rw [if_pos h, List.set_append_right _ _ (Nat.le_refl _)]
  simp
theorem isl_end {S : Store} {acc : List D} : isList (S ++ [.lst acc]) (.loc S.length) = true := by
  unfold isList lstOf
  simp only [get_end]
  rfl
theorem lst_end {S : Store} {acc : List D} : lstOf (S ++ [.lst acc]) (.loc S.length) = some acc := by
  unfold lstOf
  simp only [get_end]
  rfl
/-- a list handed out, of data -/
theorem keeps_lst {S : Store} {ds : List D} (h : D.unders S.length ds = true) : KeepsF (.ok (.loc S.length, S ++ [.lst ds])) (.ok (.lst ds)) S :=
  ⟨_, _, rfl, .lst (Nat.le_refl _) get_end (FrzL.same h)⟩
theorem unders_map {α : Type} {n : Nat} {f : α → D} (h : ∀ x, D.under n (f x) = true) : ∀ xs : List α, D.unders n (xs.map f) = true
  | [] => rfl
  | x :: xs => by
    show (D.under n (f x) && D.unders n (xs.map f)) = true
    rw [h x, unders_map h xs]
    rfl
theorem op_rep_l {S : Store} {ds : List D} {k : Int} : gMul S (.lst ds) (.int k) = if k < 2 ^ 63 ∧ -(2 ^ 63) ≤ k ∧ ds.length * k.toNat ≤ sizeLine then some (.lst (List.replicate k.toNat ds).flatten) else none := nr rfl
theorem op_rep_s {S : Store} {z : Str} {k : Int} : gMul S (.str z) (.int k) = if k < 2 ^ 62 ∧ -(2 ^ 62) ≤ k ∧ z.length * k.toNat ≤ sizeLine then some (.str (strRep z k.toNat)) else none := nr rfl
theorem op_cat_l {S : Store} {ds es : List D} : gAdd S (.lst ds) (.lst es) = if ds.length + es.length ≤ sizeLine then some (.lst (ds ++ es)) else none := nr rfl
theorem op_ix_s {S : Store} {z : Str} {i : Int} : gIx S (.str z) (.int i) = if z.length ≤ sizeLine then (atI z.cps.toList i).map fun c => .str ⟨#[c]⟩ else none := nr rfl
theorem rep_one {α : Type} (x : α) : ∀ n : Nat, (List.replicate n [x]).flatten = List.replicate n x
  | 0 => rfl
  | n + 1 => by rw [List.replicate_succ, List.flatten_cons, rep_one x n, List.replicate_succ]; rfl
/-- texts by their signs -/
def txt (l : List Nat) : Str := ⟨l.toArray⟩
theorem txt_app (a b : List Nat) : txt a ++ txt b = txt (a ++ b) := by
  show (⟨a.toArray ++ b.toArray⟩ : Str) = ⟨(a ++ b).toArray⟩
  simp
theorem txt_len (a : List Nat) : (txt a).length = a.length := by
  show a.toArray.size = _
  simp
theorem txt_cps (a : List Nat) : (txt a).cps.toList = a := by unfold txt; simp
theorem txt_inj {a b : List Nat} (h : txt a = txt b) : a = b := by
  have := congrArg (fun z : Str => z.cps.toList) h
  simpa [txt_cps] using this
theorem txt_eq {a b : List Nat} : (txt a == txt b) = (a == b) := by
  by_cases h : a = b
  · subst h; simp
  · have h2 : txt a ≠ txt b := fun z => h (txt_inj z)
    rw [beq_eq_false_iff_ne.mpr h2, beq_eq_false_iff_ne.mpr h]
theorem str_txt (z : Str) : z = txt z.cps.toList := by unfold txt; simp
end DL

/-! DL16: while an exception is handled: the end of a list's walk, sum, a comprehension. -/
namespace DL.Hot
open PySem PySem.Spec PyProof.Rows L2 HotX
section
variable {prog : Program} {w : World} {A : Around} {E : Value → Shared → Prop} {s : Shared}
/-- a list's iterator at its end, while an exception is handled -/
theorem listEnd {it l x1 : Addr} {i : Nat} {items : Array Value} {Q : Option Value → Shared → Prop} (hot : HotAt A x1 s.heap) (n1 : it ≠ x1) (hit : s.heap.IsListIter it l i) (hl : s.heap.IsList l items) (hx : items[i]? = none)
    (hQ : ∀ h' : Heap, (∀ b o, b ≠ it → s.heap.get? b = some o → h'.get? b = some o) → Q none { s with heap := h' }) : wpAny (model prog w) A (pyNext (.ref it)) Q E s := by
  obtain ⟨oI, gI, cI, dI⟩ := id hit
  obtain ⟨oL, gL, _, nL, dL⟩ := hl
  obtain ⟨hh, o1, vs1, g1, d1, c1⟩ := hot
  unfold pyNext
  refine wpAny_bind (wpAny_attempt (wpAny_callSpecial?_slot (name := Str.ofString "__next__") hit.typeIs slot_listiter_next (wpAny_call_entry slot_listiter_next hit.typeIs entry_listiter_next ?_ (args_listiter_next _))))
  show wpAny _ _ (field (.ref it) 0 >>= _) _ _ s
  refine wpAny_bind (wpAny_field gI dI (x := .ref l) rfl ?_)
  show wpAny _ _ (if (Value.ref l == Value.none) = true then _ else _) _ _ s
  rw [if_neg (show ¬ ((Value.ref l == Value.none) = true) from fun z => Bool.noConfusion (show false = true from z))]
  show wpAny _ _ (field (.ref it) 1 >>= _) _ _ s
  refine wpAny_bind (wpAny_field gI dI (x := .int i 0) rfl ?_)
  show wpAny _ _ (seqItems? (.ref l) >>= _) _ _ s
  refine wpAny_bind (wpAny_seqItems gL dL ?_)
  simp only [Int.toNat_natCast, hx]
  refine wpAny_bind (wpAny_rule (wpAny_bind (wpAny_setField gI dI (by simp) ?_)))
  refine wpAny_bind ?_
  show wpAny _ _ (newExc (.type "StopIteration") [] >>= _) _ _ _
  refine wpAny_bind ?_
  simp only [newExc, newTuple]
  refine wpAny_bind (wpAny_newObj_type ?_ (by size_fits))
  refine wpAny_bind (m := firstArgMember _ _) (wpAny_of_eq (a := Value.none) (by first | rfl | (simp only [firstArgMember]; rfl)) ?_)
  refine wpAny_newObj_type ?_ (by size_fits)
  refine wpAny_pure ?_
  have k1 := fun (b : Addr) (o : Obj) (hb : b ≠ it) (e : s.heap.get? b = some o) => (Heap.get?_update_other s.heap (Obj.mapFields (·.setIfInBounds 0 Value.none)) (Ne.symm hb)).trans e
  generalize s.heap.update it (Obj.mapFields (·.setIfInBounds 0 Value.none)) = hp at k1 ⊢
  have g2 := k1 x1 o1 (Ne.symm n1) g1
  refine raiseNew_hot ⟨hh, o1, vs1, Heap.get?_push_of_some _ (Heap.get?_push_of_some _ g2), d1, c1⟩ (Nat.ne_of_lt (Heap.lt_size (Heap.get?_push_of_some _ g2))) (Heap.get?_push_size _ rfl) rfl (by first | (simp; done) | (simp; omega) | (simp only [Array.size_append]; simp; omega)) ?_
  refine wpAny_bind (wpAny_isInstance (T := "StopIteration") (b := true) ⟨_, Heap.get?_update_self _ (Heap.get?_push_size _ rfl) rfl, rfl⟩ isSubtype_stop ?_)
  refine wpAny_pure (hQ _ fun b o hb e => ?_)
  have g3 := k1 b o hb e
  rw [Heap.get?_update_other _ _ (Nat.ne_of_gt (Heap.lt_size (Heap.get?_push_of_some _ g3)))]
  exact Heap.get?_push_of_some _ (Heap.get?_push_of_some _ g3)
/-- a walk of a list there -/
theorem walksHot {I ax x1 : Addr} (hh : A.handled = some (.ref x1)) (n1 : ax ≠ I) (n2 : x1 ≠ I) (items : Array Value) :
    Walks prog w A I [I, ax, x1] [I] items.size (fun i v => items[i]? = some v) (fun i h => h.IsListIter I ax i ∧ h.IsList ax items ∧ HotAt A x1 h) where
  sub := fun b hb => by simp at hb; simp [hb]
  frame := fun _ h h' st k => ⟨st.1.at fun o e => k I (by simp) o e, st.2.1.at fun o e => k ax (by simp) o e, by
    obtain ⟨a, o, vs, g, d⟩ := st.2.2
    exact ⟨a, o, vs, k x1 (by simp) o g, d⟩⟩
  item := fun i s Q E hi st hQ => by
    refine wpAny_pyNext_list_item st.1 st.2.1 (x := items[i]) (by simp [hi]) fun h' hit' sb => ?_
    refine hQ _ h' s.toks (by simp [hi]) ⟨hit', st.2.1.extBut sb.extBut n1, ?_⟩ fun b o hb e => sb.extBut b o (fun z => hb (by simp [z])) e
    obtain ⟨a, o, vs, g, d⟩ := st.2.2
    exact ⟨a, o, vs, sb.extBut x1 o n2 g, d⟩
  done := fun s Q E st hQ => listEnd st.2.2 (Ne.symm n2) st.1 st.2.1 (by simp) fun h' k => hQ h' s.toks fun b o hb e => k b o (fun z => hb (by simp [z])) e
  self := fun _ _ _ _ st hQ => wpAny_pyIter_listiter st.1 hQ
theorem sum_hot {l x1 : Addr} {its : List Value} {ns : List Int} {Q : Value → Shared → Prop} (hot : HotAt A x1 s.heap) (hl : s.heap.IsList l its.toArray) (hi : IntsAre its ns)
    (h : ∀ (h' : Heap) (tk : Nat) (t' : Tok), (∀ b o, s.heap.get? b = some o → h'.get? b = some o) → Q (.int ns.sum t') { s with heap := h', toks := tk }) : wpAny (model prog w) A (call (.builtin "sum") [.ref l]) Q E s := by
  obtain ⟨xs, ex⟩ := hi.allInts.items
  have en : numsOf (intItems xs).toList = ns := ex ▸ hi.numsOf
  rw [nums_intItems] at en
  rw [ex] at hl
  obtain ⟨hh, o1, vs1, g1, d1, c1⟩ := hot
  have n2 : x1 ≠ s.heap.objs.size := Nat.ne_of_lt (Heap.lt_size g1)
  refine call_sum_walkG (iter_intList hl fun s₂ e2 st hfp n3 => ?_)
  subst e2
  refine ⟨s.heap.objs.size, _, _, _, _, _, numAt xs, rfl, walksHot (A := A.in1) hh n3 n2 (intItems xs), ⟨st.1, st.2, hh, o1, vs1, Heap.get?_push_of_some _ g1, d1, c1⟩, fun b hb => ?_, (fun _ _ => intItems_at), fun h' tk t' hk => ?_⟩
  · have hb : b = s.heap.objs.size ∨ b = l ∨ b = x1 := by simpa using hb
    rcases hb with e | e | e
    · exact hfp b (by simp [e])
    · exact hfp b (by simp [e])
    · rw [e]
      exact Heap.lt_size (Heap.get?_push_of_some _ g1)
  · have q := h h' tk t' fun b o e => hk b o (by
      have := Nat.ne_of_lt (Heap.lt_size e)
      simpa using this) (Heap.get?_push_of_some _ e)
    rw [← en] at q
    have z : (intItems xs).size = xs.size := by simp [intItems]
    rw [z, preSum_eq, List.take_of_length_le (by simp)]
    exact q
end
/-- the exception at a, of the class C, is handled here; its context is None -/
def HotP (X : Cx) (a C : Addr) : Prop := X.A.handled = some (.ref a) ∧ ∃ (oe : Obj) (vs : Array Value), (a, oe) ∈ X.pn ∧ oe.cls = .ref C ∧ oe.dict = none ∧ oe.data = .fields vs ∧ vs[2]? = some .none
theorem HotP.at {X : Cx} {a C : Addr} (c : HotP X a C) {pins : List (Addr × Obj)} {σ : L2.St} {H : Hp} {s : Shared} (I : Inv X pins σ H s) : HotAt X.A a s.heap := by
  obtain ⟨hh, oe, vs, hp, _, _, d, e⟩ := c
  exact ⟨hh, oe, vs, (I.pin (a, oe) (List.mem_append_left _ hp)).1, d, e⟩
theorem cr_sumH {X : Cx} {a C : Addr} (c : HotP X a C) : CallR X (.builtin "sum") (rSum X.K) := by
  intro pins s σ H vs us Q I r ⟨l, ns, e, hs, q⟩
  subst e
  obtain ⟨its, rv, hl, _⟩ := I.list hs
  rw [Vals.ref1 r]
  exact sum_hot (c.at I) hl.isList rv.ints fun h' tk t' hk => ⟨.int _, H, I.kept hk, ⟨_, rfl⟩, q⟩
/-! ### what is walked there: a list -/
structure TurnA (a : Addr) (P : Program) (w : World) (K : PySem.W.Frag) (tg : Expr) (J : It) (fp : List Addr) (it : Addr) (tn : Nat → Heap → Prop) : Prop where
  obj : ∀ i h, tn i h → ∀ b ∈ fp, ∃ o, h.get? b = some o ∧ ∀ v, o.data ≠ .cell v
  keep : ∀ i h h', tn i h → (∀ b ∈ fp, ∀ o, h.get? b = some o → h'.get? b = some o) → tn i h'
  item : ∀ (Y : Cx), Y.prog = P → Y.w = w → Y.K = K → ∀ (i : Nat) (pins : List (Addr × Obj)) (s : Shared) (σ : L2.St) (H : Hp) (E : Value → Shared → Prop), Inv Y pins σ H s → (∀ b ∈ fp, FpOk Y pins H b) → tn i s.heap → J.go i H →
    wpAny (model P w) Y.A (pyNext (.ref it)) (fun r s1 => ∃ u, r = some u ∧
      wpAny (model P w) Y.A (letOwnedTupleGo tg (.ref it) u) (fun _ s2 => ∃ x H', Inv Y pins σ H' s2 ∧ RelV x u ∧ J.yld i H x H' ∧ tn (i + 1) s2.heap ∧ ∀ b ∈ fp, H' b = none) E s1) E s
  done : ∀ (Y : Cx), Y.prog = P → Y.w = w → Y.K = K → a ∉ fp → ∀ (i : Nat) (pins : List (Addr × Obj)) (s : Shared) (σ : L2.St) (H : Hp) (E : Value → Shared → Prop), Inv Y pins σ H s → HotAt Y.A a s.heap → (∀ b ∈ fp, FpOk Y pins H b) → tn i s.heap → J.stop i H →
    wpAny (model P w) Y.A (pyNext (.ref it)) (fun r s1 => r = none ∧ Inv Y pins σ H s1) E s
  self : ∀ (A : Around) (i : Nat) (s : Shared) (Q : Value → Shared → Prop) (E : Value → Shared → Prop), tn i s.heap → Q (.ref it) s → wpAny (model P w) A (pyIter (.ref it)) Q E s
theorem turnA {a : Addr} {P : Program} {w : World} {K : PySem.W.Frag} {tg : Expr} (l it : Addr) : TurnA a P w K tg (Itl K l) [it] it (fun i h => h.IsListIter it l i) where
  obj := (turn_list (P := P) (w := w) (K := K) (tg := tg) l it).obj
  keep := (turn_list (P := P) (w := w) (K := K) (tg := tg) l it).keep
  item := by
    intro Y eP eW eK i pins s σ H E I hf st hg
    subst eP eW eK
    obtain ⟨xs, x, hq, hx⟩ := hg
    obtain ⟨its, rv, p, hz⟩ := I.list hq
    obtain ⟨u, hu, ru⟩ := rv.get hx
    obtain ⟨k0, k1, k2, k3, k4, k5⟩ := hf it (by simp)
    refine wpAny_pyNext_list_item st p.isList (x := u) (by simpa using hu) fun h1 st1 sb => ?_
    have I1 : Inv Y pins σ H { s with heap := h1 } := I.turned (t' := s.toks) (fun b o hb e => (sb.2 b hb).trans e) k0 k1 k3 k4 k5
    obtain ⟨o, e, c, d⟩ := id st1
    exact ⟨u, rfl, go_of (s := { s with heap := h1 }) e c d (by decide) ⟨x, H, I1, ru, ⟨rfl, fun ys hy => (I.list_inj hy hq) ▸ hx⟩, st1, fun b hb => (hf b hb).1⟩⟩
  done := by
    intro Y eP eW eK nf i pins s σ H E I hot hf st hg
    subst eP eW eK
    obtain ⟨xs, hq, hx⟩ := hg
    obtain ⟨its, rv, p, hz⟩ := I.list hq
    obtain ⟨k0, k1, k2, k3, k4, k5⟩ := hf it (by simp)
    have hl := rv.length
    have ne : it ≠ a := fun z => nf (by simp [z])
    exact listEnd hot ne st p.isList (by simp; omega) fun h1 eb => ⟨rfl, I.turned (t' := s.toks) (fun b o hb e => eb b o hb e) k0 k1 k3 k4 k5⟩
  self := fun _ _ _ _ _ st h => wpAny_pyIter_listiter st h
def PIEA (X : Cx) (a : Addr) (pins : List (Addr × Obj)) (σ : L2.St) (tg : Expr) (R : It → Hp → Prop) (itv : Value) (s2 : Shared) : Prop :=
  ∃ (it : Addr) (fp : List Addr) (tn : Nat → Heap → Prop) (J : It) (H' : Hp), itv = .ref it ∧ Inv X pins σ H' s2 ∧ TurnA a X.prog X.w X.K tg J fp it tn ∧ tn 0 s2.heap ∧ (∀ b ∈ fp, FpOk X pins H' b) ∧ R J H'
structure PIA (X : Cx) (a : Addr) (tg iter : Expr) (wi : TI) : Prop where
  run : ∀ (pins : List (Addr × Obj)) (s : Shared) (σ : L2.St) (H : Hp) (R : It → Hp → Prop), Inv X pins σ H s → wi σ H R →
    wpAny (model X.prog X.w) X.A (eval iter X.env) (fun v s1 => wpAny (model X.prog X.w) X.A (pyIter v) (PIEA X a pins σ tg R) X.xe s1) X.xe s
theorem pia_list {X : Cx} {a : Addr} {tg l : Expr} {tl : TE} (hl : PE X l tl) : PIA X a tg l (iList X.K tl) := by
  refine ⟨fun pins s σ H R I h => thn (hl.run pins s σ H _ I h) fun v s1 ⟨x, H1, I1, r1, q1⟩ => ?_⟩
  obtain ⟨b, e, ⟨xs, hq⟩, q⟩ := q1
  subst e
  cases r1
  obtain ⟨its, rv, p, hz⟩ := I1.list hq
  refine wpAny_pyIter_list p.isList ⟨s1.heap.objs.size, [s1.heap.objs.size], _, _, H1, rfl, I1.kept (t' := s1.toks) fun b o e => Heap.get?_push_of_some _ e, turnA b _, ⟨_, Heap.get?_push_size _ rfl, rfl, rfl⟩, fun c hc => ?_, q⟩
  have e : c = s1.heap.objs.size := by simpa using hc
  subst e
  exact I1.fpOk (Nat.le_refl _) (I1.hok.fresh (Nat.le_refl _))
section
variable {X : Cx}
/-- a comprehension while an exception is handled -/
theorem pe_lcA {a : Addr} {elt tg iter : Expr} {ifs : List Expr} {scope : Scope} {own : List (Str × Nat)} {pos : Pos} {wi : TI} {g : TG} {tt : TT} {te : TE} {C0 : Addr} (hc : HotP X a C0) (hN : X.N.Nodup) (hi : PIA X a tg iter wi) (ok : BlkOk X.N X.env.scope scope own)
    (hg : ∀ (s : Shared) (H : Hp) (C : Addr) (cl : List (Str × Addr)) (fp : List Addr), PG (X.blk s H scope (compEnvC scope cl C X.env) fp) tg g) (ht : ∀ (s : Shared) (H : Hp) (C : Addr) (cl : List (Str × Addr)) (fp : List Addr), PTs (X.blk s H scope (compEnvC scope cl C X.env) fp) ifs tt)
    (he : ∀ (s : Shared) (H : Hp) (C : Addr) (cl : List (Str × Addr)) (fp : List Addr), PE (X.blk s H scope (compEnvC scope cl C X.env) fp) elt te) (hs : ∀ x, foldedSetIterable iter X.env x = pure x := by intro _; rfl) :
    PE X (.ListComp elt [⟨tg, iter, ifs, 0⟩] scope pos) (tLc wi g tt te (own.map (·.2))) := by
  refine ⟨fun pins s σ H Q I h => ?_⟩
  rw [eval_ListComp]
  have hfree : ∀ y ∈ scope.names, y.2 = .free → ∃ c, X.env.cells.lookup y.1 = some c := fun y hy e => (ok.free y hy e).elim (fun k => I.ok.has _ (.inl k)) fun k => I.ok.has _ (.inr k)
  refine wpAny_comprehension_free (use := none) rfl hs (closure_ok hfree) ok.kind (fun y hy e => by rw [ok.uniq y hy, e]) (thn (hi.run pins s σ H _ I h) fun xv s1 hx => thn hx fun itv s2 h2 => ?_)
  obtain ⟨it, fp, tn, J, H2, e, I2, T, st2, f2, q⟩ := h2
  subst e
  refine wpAny_newObj_type (newEnv_comp ?_) (by show 0 ≤ sizeLine; decide)
  generalize hD : s2.heap.objs.size = D
  have hDn : H2 D = none := I2.hok.fresh (Nat.le_of_eq hD)
  obtain ⟨W, ⟨m0, w0⟩, turn⟩ := q D hDn
  generalize hs3 : ({ s2 with heap := s2.heap.push { cls := .type "list", data := .seq ([] : List Value).toArray } } : Shared) = s3
  have h3 : s3.heap = s2.heap.push { cls := .type "list", data := .seq ([] : List Value).toArray } := by rw [← hs3]
  have I3 : Inv X pins σ (upd H2 D (.lst [])) s3 := by
    rw [← hs3]
    exact I2.laid (t' := s2.toks) (fun b o e => Heap.get?_push_of_some _ e) (Nat.le_of_eq hD) ⟨Nat.zero_le _, [], 0, .nil, hD ▸ Heap.get?_push_size _ rfl⟩
  have sz : ∀ b ∈ fp, b < s2.heap.objs.size := fun b hb => (T.obj _ _ st2 b hb).elim fun o z => Heap.lt_size z.1
  have f3 : ∀ b ∈ fp, FpOk X pins (upd H2 D (.lst [])) b ∧ b < s3.heap.objs.size := fun b hb => by
    have hlt := sz b hb
    exact ⟨⟨(upd_ne (by rw [← hD]; exact Nat.ne_of_lt hlt)).trans (f2 b hb).1, (f2 b hb).2⟩, by rw [h3, Heap.size_push]; exact Nat.lt_succ_of_lt hlt⟩
  have st3 : tn 0 s3.heap := T.keep _ _ _ st2 fun b _ o e => by rw [h3]; exact Heap.get?_push_of_some _ e
  have I4 := block_start I3 ok hN f3
  have pg := hg s3 (upd H2 D (.lst [])) s3.heap.objs.size (cellsFrom (s3.heap.objs.size + 1) scope.names (cloFrom X.env.cells scope.names [])) fp
  have pt := ht s3 (upd H2 D (.lst [])) s3.heap.objs.size (cellsFrom (s3.heap.objs.size + 1) scope.names (cloFrom X.env.cells scope.names [])) fp
  have pe := he s3 (upd H2 D (.lst [])) s3.heap.objs.size (cellsFrom (s3.heap.objs.size + 1) scope.names (cloFrom X.env.cells scope.names [])) fp
  show codeAny _ _ (.compStart (.ListComp elt [⟨tg, iter, ifs, 0⟩] scope pos) 0 (.ref it) (.ref D) (compEnvC scope (cellsFrom (s3.heap.objs.size + 1) scope.names (cloFrom X.env.cells scope.names [])) s3.heap.objs.size X.env)) (compPost (model X.prog X.w) X.A X.xe none (EP X pins σ Q) (.ref D) s3.heap.objs.size) { s3 with heap := pushCells (s3.heap.push { cls := .type "dict", data := .dict #[] }) scope.names }
  have nfp : ∀ b ∈ fp, (upd H2 D (.lst [])) b = none := fun b hb => (f3 b hb).1.1
  generalize hce : compEnvC scope (cellsFrom (s3.heap.objs.size + 1) scope.names (cloFrom X.env.cells scope.names [])) s3.heap.objs.size X.env = ce at I4 pg pt pe ⊢
  have cL : ce.locals = s3.heap.objs.size := by subst hce; rfl
  generalize hH3 : upd H2 D (.lst []) = H3 at I3 I4 pg pt pe w0 nfp f3
  generalize hs4 : ({ s3 with heap := pushCells (s3.heap.push { cls := .type "dict", data := .dict #[] }) scope.names } : Shared) = s4 at I4 ⊢
  -- the handled exception stands all along
  obtain ⟨hh, oe, vse, hpn, _, _, dE, cE⟩ := id hc
  have pE := I3.pin (a, oe) (List.mem_append_left _ hpn)
  have nfE : a ∉ fp := fun hb => (f3 a hb).1.2.2.2.2.2 (a, oe) (List.mem_append_left _ hpn) rfl
  have nsE : a ∉ frs X.stack := fun hm => (List.mem_cons.mp (I3.stkSub a hm)).elim pE.2.2.1 pE.2.2.2.1
  have hotB : ∀ {σ' : L2.St} {H' : Hp} {s' : Shared}, Inv (X.blk s3 H3 scope ce fp) [] σ' H' s' → HotAt X.A a s'.heap := fun {σ' H' s'} I' => ⟨hh, oe, vse, I'.base.keep a oe pE.1 pE.2.1 nsE nfE, dE, cE⟩
  have st4 : tn 0 s4.heap := T.keep _ _ _ st3 fun b _ o e => by rw [← hs4]; exact pushCells_keeps _ _ _ _ (Heap.get?_push_of_some _ e)
  have stat : ∀ {σ' : L2.St} {H' : Hp} {s' : Shared}, Inv (X.blk s3 H3 scope ce fp) [] σ' H' s' → (∀ b ∈ fp, H' b = none) → ∀ b ∈ fp, FpOk (X.blk s3 H3 scope ce fp) [] H' b := fun {σ' H' s'} I' hn b hb =>
    ⟨hn b hb, (I'.ok.exf b hb).1, I'.ok.exfs b hb, .inl hb, fun x c e => (I'.ok.exf b hb).2 x c e, fun p hp => absurd (show p ∈ ([] : List (Addr × Obj)) ++ [] from hp) (by simp)⟩
  have loop : codeAny (model X.prog X.w) X.A (.compLoop (.ListComp elt [⟨tg, iter, ifs, 0⟩] scope pos) 0 (.ref it) (.ref D) ce) (compPost (model X.prog X.w) X.A X.xe none (EP X pins σ Q) (.ref D) s3.heap.objs.size) s4 := by
    refine compLoop_any (fun n s' => ∃ i H', Inv (X.blk s3 H3 scope ce fp) [] (wipe σ (own.map (·.2))) H' s' ∧ tn i s'.heap ∧ (∀ b ∈ fp, H' b = none) ∧ W i n H') ?_ m0 ⟨0, H3, I4, st4, nfp, w0⟩
    rintro n s5 ⟨i, H5, I5, st5, n5, w5⟩
    rcases turn i n H5 w5 with ⟨stop, qq⟩ | ⟨go, Nx, hNx, step⟩
    · refine thnF (T.done (X.blk s3 H3 scope ce fp) rfl rfl rfl nfE i [] s5 _ H5 (fun _ _ => False) I5 (hotB I5) (stat I5 n5) st5 stop) fun r s6 ⟨hr, I6⟩ => ?_
      subst hr
      have I7 : Inv X pins σ H5 s6 := I3.call' (ch := fp) I6.os I6.base I6.hok I6.bare fun b hb => ⟨(f3 b hb).1.2.2.2.1, (f3 b hb).1.2.1, (f3 b hb).1.2.2.2.2.1, (f3 b hb).1.2.2.2.2.2⟩
      have nC : H5 s3.heap.objs.size = none := cL ▸ (show H5 ce.locals = none from I6.free)
      obtain ⟨mm, hn, _⟩ := I6.loc
      have hn : s6.heap.Ns s3.heap.objs.size mm := cL ▸ (show s6.heap.Ns ce.locals mm from hn)
      obtain ⟨k0, k1, k2, k3, k4, k5⟩ := I3.fpOk (H' := H5) (Nat.le_refl _) nC
      exact ⟨mm, hn, fun h'' sb => ⟨.ref D, H5, I7.turned (t' := s6.toks) (fun b o hb e => (sb.2 b hb).trans e) k0 k1 k3 k4 k5, rfl, qq⟩⟩
    · refine thnF (T.item (X.blk s3 H3 scope ce fp) rfl rfl rfl i [] s5 _ H5 (fun _ _ => False) I5 (stat I5 n5) st5 go) fun r s6 ⟨u, hr, h6⟩ => ?_
      subst hr
      refine thnF h6 fun _ s7 ⟨x, H7, I7, r7, y7, st7, n7⟩ => ?_
      refine thnF (pg.run _ s7 _ H7 x u _ (I7.pinned (stat I7 n7) (T.obj _ _ st7)) r7 (step x H7 y7)) fun _ s8 ⟨σ8, H8, I8, hw8, q8⟩ => ?_
      refine thnF (pt.run _ s8 σ8 H8 _ I8 q8) fun b s9 ⟨H9, I9, q9⟩ => ?_
      have fin : ∀ {s' : Shared} {H' : Hp}, Inv (X.blk s3 H3 scope ce fp) ([] ++ pinsAt fp s7.heap) σ8 H' s' → Nx H' → ∃ m, m < n ∧ ∃ i H', Inv (X.blk s3 H3 scope ce fp) [] (wipe σ (own.map (·.2))) H' s' ∧ tn i s'.heap ∧ (∀ b ∈ fp, H' b = none) ∧ W i m H' := fun {s' H'} I' nx => by
        obtain ⟨m', hm, w'⟩ := hNx H' nx
        have pin' : ∀ b ∈ fp, ∀ o, s7.heap.get? b = some o → s'.heap.get? b = some o ∧ H' b = none := fun b hb o e =>
          (I'.pin (b, o) (List.mem_append_right _ (List.mem_append_right _ (mem_pinsAt hb e)))).elim fun z1 z2 => ⟨z1, z2.1⟩
        have hl : (wipe σ (own.map (·.2))).length = σ8.length := by rw [← hw8, wipe_length]
        exact ⟨m', hm, i + 1, H', (I'.unpinned (pins := [])).weak hl (fun j v e => (wipe_some (hw8 ▸ e)).1), T.keep _ _ _ st7 fun b hb o e => (pin' b hb o e).1, fun b hb => (T.obj _ _ st7 b hb).elim fun o z => (pin' b hb o z.1).2, w'⟩
      cases b with
      | false =>
        simp only [Bool.false_eq_true, if_false] at q9 ⊢
        exact fin I9 q9
      | true =>
        simp only [if_true] at q9 ⊢
        exact thnF (pe.run _ s9 σ8 H9 _ I9 q9) fun z s10 ⟨yv, H10, I10, r10, acc, hD10, hz10, nx⟩ => app_ok (X := X.blk s3 H3 scope ce fp) I10 hD10 hz10 r10 fun s11 I11 => fin I11 nx
  exact codeAny_compStart_list loop (T.self X.A 0 _ _ _ st4 loop)
end
end DL.Hot

/-! DL17: rules while an exception is handled: isinstance of it, sum, a comprehension; xs.index(y). -/
namespace DL
open PySem PySem.Spec L2 DL.Hot
section
variable {X : Cx} {T : List (Addr × Str)} {W : WX} {a b c e o tg : Expr} {es : List Expr} {f f1 f2 : Ex} {g : Ax} {pos apos cpos : Pos}
/-- what the model looks at when it asks an exception of the class C for its kind -/
def xcOk (K : PySem.W.Frag) (C : Addr) : Bool := (PySem.W.clsIn K C).isSome && (decide (PySem.W.findIn K (.ref C) "__getattribute__" = some (some (.builtin "BaseException.__getattribute__"))) && ((PySem.W.findIn K (.ref C) "__getattr__").isSome &&
  (decide (PySem.W.subIn K (.ref C) (.type "BaseException") = some true) && (decide (PySem.W.findIn K (.ref C) "__class__" = some (some (.builtin "object.__class__"))) && (decide (PySem.W.specialIn K (.builtin "object.__class__") "__get__" = some (some (.builtin "getset_descriptor.__get__"))) &&
  (decide (PySem.W.takesIn K (.builtin "object.__class__") = some true) && decide (PySem.W.mroIn K C (.type "object") = some true)))))))
theorem call_isx {x C : Addr} (hp : HotP X x C) (hk : xcOk X.K C = true) {dv : V} {D : Value} (kd : ClsV dv D) {r : Bool} (hr : PySem.W.kitOne X.K (.ref C) D = some r) : CallR X (.builtin "isinstance") (fun xs H Q => xs = [.ref x, dv] ∧ Q (.bl r) H) := by
  intro pins s σ H xs us Q I rv ⟨e, q⟩
  subst e
  obtain ⟨u1, u2, e, r1, r2⟩ := vals2 rv
  subst e
  have e2 := kd.eq r2
  subst e2
  cases (show u1 = Value.ref x from r1)
  obtain ⟨hh, oe, vs, hpn, hc, hd, hdat, _⟩ := hp
  have pE := I.pin (x, oe) (List.mem_append_left _ hpn)
  unfold xcOk at hk
  simp only [Bool.and_eq_true, decide_eq_true_eq] at hk
  obtain ⟨k1, k2, k3, k4, k5, k6, k7, k8⟩ := hk
  obtain ⟨gt, k3⟩ := Option.isSome_iff_exists.mp k3
  have no : PySem.W.notCls oe = true := by unfold PySem.W.notCls; rw [hdat]
  exact PySem.W.kia_one (PySem.W.kitx_exc (od := none) k1 k2 k3 k4 k5 k6 k7 k8) I.kIn (⟨pE.1, hc, no, by rw [hd]; trivial⟩ : PySem.W.InstAt s.heap x oe C none) hr (fun z => nomatch z) fun tk => ⟨.bl r, H, I.tok tk, rfl, q⟩
/-- isinstance(e, D) of the handled exception -/
def exIsx (x C : Addr) (r : Bool) (f : Ex) : Ex := fun ρ S => (f ρ S).bind fun q => match q.1 with
  | .xc x' C' => if x' = x ∧ C' = C then .ok (.bl r, q.2) else .stuck
  | _ => .stuck
theorem isx_imp {x C : Addr} {r : Bool} {dv : V} {K : PySem.W.Frag} {tq : TE} (hq : ∀ σ H Q, Q dv H → tq σ H Q) {σ : St} {H : Hp} {Q : VK} (h : tE K T W (exIsx x C r f) σ H Q) : tE K T W f σ H fun v H1 => tq σ H1 fun u H2 => [v, u] = [V.ref x, dv] ∧ Q (.bl r) H2 := by
  obtain ⟨ρ, m, G, S, hh, h⟩ := h
  refine tE.bind hh h (fun _ _ q => q) fun d S1 v m1 G1 H1 st1 hh1 rx h1 => ?_
  have h1' := h1.nextE hh.2 st1
  cases rx with
  | xc x' C' =>
    dsimp only at h1'
    split at h1'
    · rename_i e
      exact hq _ _ _ ⟨by rw [e.1], PostE.same h1' hh1.2 (.bl _)⟩
    · exact h1'.elim
  | _ => exact h1'.elim
theorem de_isx {x C D : Addr} {y : Str} {r : Bool} {p p2 : Pos} (hp : HotP X x C) (hk : xcOk X.K C = true) (hr : PySem.W.kitOne X.K (.ref C) (.ref D) = some r) (hg : Gl X "isinstance") (hm : X.mg "isinstance" = none) (hm2 : X.mg y = some (.ref D)) (ha : DE X T W a f) (hg2 : Gl X y := by rfl) (hd2 : (y == ("__debug__" : Str)) = false := by decide)
    (he : starEach [a, .Name y p2] X.env = (false, eval a X.env) :: starEach [.Name y p2] X.env := by rfl) (he2 : starEach [.Name y p2] X.env = (false, eval (.Name y p2) X.env) :: starEach [] X.env := by rfl) (hpl : (backTo pos (starEach [.Name y p2] X.env)).any (·.1) = false := by rfl) :
    DE X T W (.Call (.Name "isinstance" p) [a, .Name y p2] [] pos) (exIsx x C r f) := by
  refine ⟨PE.imp (pe_callB (call_isx hp hk (.own D) hr) hg hm (by decide +kernel) (pa_cons ha.pe (pa_cons (pe_glob (v := .ref D) hg2 hm2 rfl hd2) pa_nil he2) he) (he := he) (hpl := hpl)) fun σ H Q h => ?_⟩
  exact isx_imp (tq := tC (.ref D)) (fun _ _ _ q => q) h
theorem de_isxT {x C : Addr} {y : Str} {t : String} {r : Bool} {p p2 : Pos} (hp : HotP X x C) (hk : xcOk X.K C = true) (hr : PySem.W.kitOne X.K (.ref C) (.type t) = some r) (hg : Gl X "isinstance") (hm : X.mg "isinstance" = none) (hg2 : Gl X y) (hm2 : X.mg y = none) (hv2 : bootBuiltins y = some (.type t)) (ha : DE X T W a f) (hn2 : y ≠ "__name__" := by decide) (hd2 : (y == ("__debug__" : Str)) = false := by decide)
    (he : starEach [a, .Name y p2] X.env = (false, eval a X.env) :: starEach [.Name y p2] X.env := by rfl) (he2 : starEach [.Name y p2] X.env = (false, eval (.Name y p2) X.env) :: starEach [] X.env := by rfl) (hpl : (backTo pos (starEach [.Name y p2] X.env)).any (·.1) = false := by rfl) :
    DE X T W (.Call (.Name "isinstance" p) [a, .Name y p2] [] pos) (exIsx x C r f) := by
  refine ⟨PE.imp (pe_callB (call_isx hp hk (.ty t) hr) hg hm (by decide +kernel) (pa_cons ha.pe (pa_cons (pe_bltn (v := .ty t) hg2 hm2 hv2 rfl hn2 hd2) pa_nil he2) he) (he := he) (hpl := hpl)) fun σ H Q h => ?_⟩
  exact isx_imp (tq := tC (.ty t)) (fun _ _ _ q => q) h
theorem de_sumH {x C : Addr} {p : Pos} (hp : HotP X x C) (hg : Gl X "sum") (hm : X.mg "sum" = none) (ha : DA X T W [e] g) (he : starEach [e] X.env = [(false, eval e X.env)] := by rfl) : DE X T W (.Call (.Name "sum" p) [e] [] pos) (exB gSum g) :=
  de_callB (cr_sumH hp) cd_sum hg hm (by decide +kernel) ha (he := he) (hpl := by rfl)
/-- what is walked is a list that was just made -/
def ixL (f : Ex) : Ix := fun ρ S => (f ρ S).bind fun r => match r.1 with
  | .lst ds => .ok ((ds, none), r.2)
  | _ => .stuck
theorem dia_list {x C : Addr} (ha : DE X T W e f) : PIA X x tg e (tId X.K T W (ixL f)) := by
  refine ⟨fun pins s σ H R I h => (pia_list (a := x) (tg := tg) ha.pe).run pins s σ H R I ?_⟩
  obtain ⟨ρ, m, G, S, hh, h⟩ := h
  refine tE.bind hh h (fun _ _ q => q) fun d S1 v m1 G1 H1 st1 hh1 rx h1 => ?_
  cases rx with
  | lst g1 g2 => exact ⟨_, rfl, ⟨_, .of (hh1.2.fits _ _ g1)⟩, h1 m1 G1 H1 _ st1 hh1.2 rfl (yields_lst (.of g1) g2)⟩
  | _ => exact h1.elim
theorem de_lcH {x C : Addr} {elt iter : Expr} {ifs : List Expr} {scope : Scope} {own : List (Str × Nat)} {gt : Gx} {is : List Nat} {t : Tx} {fe : Ex} (hp : HotP X x C) (hN : X.N.Nodup) (hi : DE X T W iter f) (ok : BlkOk X.N X.env.scope scope own)
    (hg : ∀ (s : Shared) (H : Hp) (C : Addr) (cl : List (Str × Addr)) (fp : List Addr), DG (X.blk s H scope (compEnvC scope cl C X.env) fp) tg gt is) (ht : ∀ (s : Shared) (H : Hp) (C : Addr) (cl : List (Str × Addr)) (fp : List Addr), DTs (X.blk s H scope (compEnvC scope cl C X.env) fp) T WF ifs t)
    (he : ∀ (s : Shared) (H : Hp) (C : Addr) (cl : List (Str × Addr)) (fp : List Addr), DE (X.blk s H scope (compEnvC scope cl C X.env) fp) T WF elt fe) (hv : ∀ j ∈ is, j ∈ own.map (·.2) := by decide) (hs : ∀ x, foldedSetIterable iter X.env x = pure x := by intro _; rfl) :
    DE X T W (.ListComp elt [⟨tg, iter, ifs, 0⟩] scope pos) (exLc (ixL f) gt t fe (own.map (·.2))) :=
  ⟨PE.imp (pe_lcA (g := tGd X.K gt is) (tt := tT X.K T WF t) (te := tE X.K T WF fe) hp hN (dia_list (C := C) hi) ok (fun s H C cl fp => (hg s H C cl fp).pg) (fun s H C cl fp => (ht s H C cl fp).pts) (fun s H C cl fp => (he s H C cl fp).pe) hs) fun σ H Q h => lc_imp hv h⟩
/-! ### xs.index(y) of plain items -/
def firstD (y : D) : List D → Option Nat
  | [] => none
  | d :: ds => if eqD d y then some 0 else (firstD y ds).map (· + 1)
def gIndex (S : Store) (x : D) (xs : List D) : Option (D × Store) := match xs with
  | [y] => match lstOf S x with
    | some ds => if flatD y && ds.all flatD then (firstD y ds).map fun (j : Nat) => (D.int (j : Int), S) else none
    | none => none
  | _ => none
theorem firstD_at : ∀ {ds : List D} {y : D} {j : Nat}, firstD y ds = some j → ∃ d, ds[j]? = some d ∧ eqD d y = true ∧ ∀ (i : Nat) (d' : D), i < j → ds[i]? = some d' → eqD d' y = false
  | d :: ds, y, j, h => by
    unfold firstD at h
    split at h
    · rename_i e
      cases h
      exact ⟨d, rfl, e, fun i d' hi => by omega⟩
    · rename_i e
      obtain ⟨k, hk, rfl⟩ := Option.map_eq_some_iff.mp h
      obtain ⟨d', h1, h2, h3⟩ := firstD_at hk
      refine ⟨d', h1, h2, fun i d2 hi h4 => ?_⟩
      cases i with
      | zero => cases h4; simpa using e
      | succ i => exact h3 i d2 (by omega) h4
theorem mtd_index {K : PySem.W.Frag} : MtD K T "list" (rIndex K) gIndex := by
  intro m G S H x v xs vs q Q sr rx rs e p
  unfold gIndex at e
  split at e
  · rename_i y
    split at e
    · rename_i ds e1
      split at e
      · rename_i fl
        obtain ⟨j, hj, rfl⟩ := Option.map_eq_some_iff.mp e
        obtain ⟨l, ys, rfl, s1, r1⟩ := lstOf_at sr rx e1
        obtain ⟨u, rfl, ru⟩ := RpL.one rs
        obtain ⟨d, h1, h2, h3⟩ := firstD_at hj
        obtain ⟨z, z1, z2⟩ := r1.get h1
        rw [Bool.and_eq_true, List.all_eq_true] at fl
        refine ⟨l, ys, u, j, z, rfl, rfl, s1, flat_rp ru fl.1, ?_, z1, ?_, fun i z' hi hz' => ?_, p.same sr (.int _)⟩
        · rw [List.all_eq_true]
          intro w hw
          obtain ⟨d', hd', rd'⟩ := r1.mem hw
          exact flat_rp rd' (fl.2 d' hd')
        · rw [eq_rp z2 ru (fl.2 d (List.mem_of_getElem? h1)) fl.1]; exact h2
        · obtain ⟨d', w1, w2⟩ := r1.getV hz'
          rw [eq_rp w2 ru (fl.2 d' (List.mem_of_getElem? w1)) fl.1]
          exact h3 i d' hi w1
      · cases e
    · cases e
  · cases e
theorem de_index (ho : DE X T W o f) (ha : DA X T W [e] g) (hbase : attributeBase o "index" X.env (eval o X.env) = eval o X.env := by rfl)
    (hfew : ((backTo cpos (starEach [e] X.env)).all (fun x => !x.1) && (backToKw cpos (keywordEach [] X.env)).all (fun x => x.1.isSome) && decide (([e] : List Expr).length + ([] : List Keyword).length + (if ([] : List Keyword).isEmpty then 0 else 1) < 30)) = true := by rfl)
    (hline : (apos.endLine == cpos.line) = true := by rfl) (hs : starEach [e] X.env = [(false, eval e X.env)] := by rfl) : DE X T W (.Call (.Attribute o "index" apos) [e] [] cpos) (exM isList gIndex f g) :=
  de_bmL PySem.F.slot_list_index PySem.F.type_list_index mt_index mtd_index ho ha hbase hfew hline hs (by rfl)
@[simp] theorem ev_Isx {x C : Addr} {r : Bool} {ρ : DEnv} {S : Store} : exIsx x C r f ρ S = (f ρ S).bind fun q => match q.1 with
  | .xc x' C' => if x' = x ∧ C' = C then .ok (.bl r, q.2) else .stuck
  | _ => .stuck := nr rfl
end
end DL

/-! DL18: a def called with the exception that is handled; a lambda handed to a def that calls it in a try. -/
namespace DL
open PySem PySem.Spec PyProof.Rows L2 LamX DL.Hot
abbrev St' := L2.St
/-! ### a def called with the exception that is handled -/
structure FnW (P : Program) (w : World) (K : PySem.W.Frag) (mg : Str → Option Value) (base : Heap) (k : Nat) (f : Addr) (fd : FuncData) (ps : List Str) (C : Addr) (sp : Addr → Sp) : Prop where
  len : ∀ a vs H Q E, sp a vs H Q E → vs.length = ps.length
  run : ∀ (A : Around) (outer : List Env) (s : Shared) (H : Hp) (args : Args) (us : List Value) (vs : List V) (Q : VK) (E : XK) (a : Addr) (oe : Obj) (ov : Array Value), L2H.RoomH k A → A.handled = some (.ref a) → L2H.PinOk outer H s (a, oe) → oe.cls = .ref C → oe.dict = none → oe.data = .fields ov → ov[2]? = some .none →
    Env0 P w K mg base A outer s H → BindsTo s fd args (ps.zip us) → Vals vs us → sp a vs H Q E → codeAny (model P w) A (.call (.ref f) args) (CR (L2N.CX P w) outer P w H s Q E) s
section
variable {P : Program} {w : World} {K : PySem.W.Frag} {mg : Str → Option Value} {base : Heap} {T : List (Addr × Str)}
theorem fnW_of {k : Nat} {f C : Addr} {name qual : Str} {params : Arguments} {body : List Stmt} {scope : Scope} {dV kV doc pm cdv ct oc : Value} {an od : Option Addr} {osl : Array (Option Value)} {N ps : List Str} {sp : Addr → Sp}
    (lk : K.lookup f = some ⟨oc, od, .func (PySem.W.fnOf name qual params body scope dV kV doc pm an cdv ct), osl⟩) (hcd : PySem.W.codeIn K cdv qual = true) (Sc : FnScope N ps scope) (len : ∀ a vs H Q E, sp a vs H Q E → vs.length = ps.length)
    (hbody : ∀ (A : Around) (outer : List Env) (s : Shared) (H : Hp) (vs : List V) (Q : VK) (E : XK) (a : Addr) (oe : Obj), HotP (L2H.cxH (L2N.CX P w) P w K mg base N qual scope f cdv A outer s H E (a, oe)) a C → L2H.RoomH k (A.deeper (envOfC qual scope s.heap.objs.size f cdv)) → sp a vs H Q E →
      ∃ t, PSs (L2H.cxH (L2N.CX P w) P w K mg base N qual scope f cdv A outer s H E (a, oe)) body t ∧ t { nx := fun _ H' => Q .non H', rt := Q } (L2.start N vs) H) :
    FnW P w K mg base (k + 1) f (PySem.W.fnOf name qual params body scope dV kV doc pm an cdv ct) ps C sp := by
  refine ⟨len, fun A outer s H args us vs Q E a oe ov hr hh hpin hc hd hdat hctx e0 hb r hsp => ?_⟩
  have hl := len _ _ _ _ _ hsp
  have KX : K.In s.heap := e0.mod.kin.keeps fun b o e => (e0.bs b o e).1
  have lim : s.heap.NoLimit := e0.mod.nolimit.keeps fun b o e => (e0.bs b o e).1
  have kinds : ∀ y ∈ ps.zip us, scope.names.lookup y.1 = some .local ∨ (scope.names.lookup y.1 = some .cell ∧ ((cellsFrom (s.heap.objs.size + 1) scope.names []).lookup y.1).isSome = true) := fun ⟨n, v⟩ hy =>
    (Sc.par n (List.of_mem_zip hy).1).elim .inl fun q => .inr ⟨q, PySem.W.cellsFrom_some _ _ _ (.inl q)⟩
  refine codeAny_call_function hr.depth (KX _ _ lk) rfl Sc.co Sc.gen rfl (PySem.W.codeRec_of KX hcd) (hb _ _ _ _ (wpAny_newFunctionEnv_cells Sc.kind kinds fun env he s1 x => ?_))
  subst he
  refine ⟨lim.keeps x.toInCall.keep, codeAny_func ?_⟩
  obtain ⟨t, ht, hq⟩ := hbody A outer s H vs Q E a oe ⟨hh, oe, ov, List.mem_singleton.mpr rfl, hc, hd, hdat, hctx⟩ (hr.deeper _) hsp
  have I := L2H.inv_startH (CX := L2N.CX P w) (E := E) (qual := qual) (f := f) (cd := cdv) Sc hpin e0 hl r x
  refine wpAny_mono (ht.run [] s1 (L2.start N vs) H _ I hq) (fun fl s' hs => ?_) fun e s' hs => hs
  cases fl with
  | ret u =>
    obtain ⟨v, σ', H', J, rv, q⟩ := hs
    exact ⟨v, H', J.os, J.bare, J.base, J.hok, rv, q⟩
  | next =>
    obtain ⟨σ', H', J, q⟩ := hs
    exact ⟨V.non, H', J.os, J.bare, J.base, J.hok, (rfl : RelV V.non Value.none), q⟩
  | brk => exact hs.elim fun _ h => h.elim fun _ h => h.elim fun _ h => h.elim
  | cont => exact hs.elim fun _ h => h.elim fun _ h => h.elim fun _ h => h.elim
structure GoodW (P : Program) (w : World) (K : PySem.W.Frag) (mg : Str → Option Value) (base : Heap) (T : List (Addr × Str)) (k : Nat) (f : Addr) (ps : List Str) (F : Addr → Addr → Fx) : Prop where
  ex : ∃ fd, (∀ C, xcOk K C = true → FnW P w K mg base k f fd ps C (fun a => spF K T ps.length (F a C))) ∧ Binds K fd ps []
  kp : PySem.W.keepIn K (.ref f) = true
theorem fnGW {x qual : Str} {st : Stmt} {f : Addr} {fd : FuncData} {kws : List (Str × V)} {N ps : List Str} {k : Nat} {s : Addr → Addr → Sx} (F : FunD K x qual (defArgs st) (defBody st) (defScope st) [] kws f fd) (Sc : FnScope N ps (defScope st))
    (hb : ∀ (kV doc pm : Value) (an : Option Addr) (cdv ct : Value) (us : List Value), us.length = ps.length → bindArgs (PySem.W.fnOf x qual (defArgs st) (defBody st) (defScope st) .none kV doc pm an cdv ct) ⟨us, []⟩ = pure (ps.zip us))
    (body : ∀ (a C : Addr) (cdv : Value) (A : Around) (outer : List Env) (s0 : Shared) (H : Hp) (E : XK) (oe : Obj), xcOk K C = true → HotP (L2H.cxH (L2N.CX P w) P w K mg base N qual (defScope st) f cdv A outer s0 H E (a, oe)) a C → L2H.RoomH k (A.deeper (envOfC qual (defScope st) s0.heap.objs.size f cdv)) →
      DSs (L2H.cxH (L2N.CX P w) P w K mg base N qual (defScope st) f cdv A outer s0 H E (a, oe)) T (fun cls d _ H => E cls d H) (defBody st) (s a C)) :
    GoodW P w K mg base T (k + 1) f ps (fun a C => runF N.length (s a C)) := by
  refine ⟨⟨fd, fun C hC => ?_, F.bindsN hb⟩, F.kp⟩
  obtain ⟨oc, od, dV, kV, doc, pm, an, cdv, ct, osl, rfl, lk, hcd, _, _⟩ := F.ex
  refine fnW_of lk hcd Sc (fun a vs H Q E h => spF_len h) fun A outer s0 H vs Q E a oe hot hr h => ?_
  obtain ⟨ds, m, G, S, h1, h2, h3, h4⟩ := h
  exact ⟨_, (body a C cdv A outer s0 H E oe hC hot hr).ps, run_want ⟨er_start N h2, h3⟩ h4⟩
end
/-- f(e), e the handled exception's name -/
theorem pe_callW {X : Cx} {x : Str} {q pos : Pos} {e : Expr} {te : TE} {k : Nat} {f a C : Addr} {fd : FuncData} {ps : List Str} {sp : Addr → Sp} (F : FnW X.prog X.w X.K X.mg X.base k f fd ps C sp) (hr : L2H.RoomH k X.A) (hp : HotP X a C) (hg : Gl X x) (hm : X.mg x = some (.ref f)) (hk : PySem.W.keepIn X.K (.ref f) = true) (hb : Binds X.K fd ps []) (he : PE X e te)
    (hdb : (x == ("__debug__" : Str)) = false := by decide) (hs : starEach [e] X.env = (false, eval e X.env) :: starEach [] X.env := by rfl) (hpl : (backTo pos (starEach [] X.env)).any (·.1) = false := by rfl) :
    PE X (.Call (.Name x q) [e] [] pos) (fun σ H Q => te σ H fun v H1 => sp a [v] H1 Q fun _ _ _ => False) := by
  refine ⟨fun pins s σ H Q I h => ?_⟩
  refine wpAny_Call_Name_kw (ld_glob I hg hm ?_ hdb)
  refine PySem.W.callWith_K (h₀ := X.base) I.ok.mod.kin hk (thn ((pa_cons he pa_nil hs).run pos pins s σ H (fun vs H1 => sp a vs H1 Q fun _ _ _ => False) I h) fun us s1 ⟨vs, H1, I1, r, q2⟩ => ⟨I1.kIn, ?_⟩) hs hpl
  · obtain ⟨hh, oe, ov, hpn, hc, hd, hdat, hctx⟩ := hp
    have hl : us.length = ps.length := by rw [← r.length]; exact F.len _ _ _ _ _ q2
    have b := hb s1 us I1.kIn (by rw [List.append_nil]; exact hl)
    rw [List.append_nil] at b
    have P1 := I1.pin (a, oe) (List.mem_append_left _ hpn)
    have pin : L2H.PinOk X.stack H1 s1 (a, oe) := ⟨P1.1, P1.2.1, fun hm => (List.mem_cons.mp (I1.stkSub a hm)).elim P1.2.2.1 P1.2.2.2.1, P1.2.2.2.2⟩
    refine wpAny_call (codeAny_mono (F.run X.A X.stack s1 H1 ⟨us, []⟩ us vs Q _ a oe ov hr hh pin hc hd hdat hctx I1.env0 b r q2) fun rr s' hq => ?_)
    cases rr with
    | error e =>
      obtain ⟨_, _, _, _, _, _, _, _, _, _, _, _, z⟩ := hq
      exact (show False from z).elim
    | ok fl =>
      cases fl with
      | ret u => exact I1.after hq
      | next => exact False.elim hq
      | brk => exact False.elim hq
      | cont => exact False.elim hq
end DL

/-! DL19: a lambda handed to a def that calls it in a try: told. -/
namespace DL
open PySem PySem.Spec PyProof.Rows L2 LamX DL.Hot
/-- the lambda's body, what leaves it told with its context None -/
def lamN (X : Cx) (A : Around) (outer : List Env) (s : Shared) (H : Hp) (E : XK) (scope : Scope) (f c' : Addr) : Cx :=
  { lamCx X A outer s H E scope f c' with xe := fun e s' => wpAny (model X.prog X.w) (A.deeper (lamEnv X scope s.heap.objs.size f c')) (leaving (lamEnv X scope s.heap.objs.size f c') e) (fun _ s'' => L2N.CX X.prog X.w outer H s E e s'') (fun e' s'' => L2N.CX X.prog X.w outer H s E e' s'') s' }
theorem inv_lamN {X : Cx} {A : Around} {outer : List Env} {s : Shared} {H : Hp} {E : XK} {scope : Scope} {f c' : Addr} {pins : List (Addr × Obj)} {σ : St'} {H1 : Hp} {s1 : Shared} (I : Inv (lamCx X A outer s H E scope f c') pins σ H1 s1) : Inv (lamN X A outer s H E scope f c') pins σ H1 s1 :=
  have ok := I.ok
  ⟨⟨ok.mod, ok.kind, ok.glob, ok.blt, ok.above, ok.inj, ok.has, ok.cab, ok.hd, ok.frames, ok.stk, ok.exf, ok.bs, ok.bsz, ok.noex, ok.exfs, ok.funs, ok.frf⟩, I.os, I.bare, I.base, I.loc, I.cell, I.free, I.freeC, I.pin, I.hok, I.len⟩
section
variable {X : Cx} {pins : List (Addr × Obj)} {σ : St'} {H HZ : Hp} {s s1 : Shared}
/-- a(), in the def that got the lambda -/
theorem pe_actN {CXg : CXT} {Eg : XK} {Ng : List Str} {qg : Str} {sg : Scope} {g f c' : Addr} {cdg pm ctv : Value} {params : Arguments} {body : Expr} {scope : Scope} {k i : Nat} {a : Str} {pn : List (Addr × Obj)} {xe : Value → Shared → Prop} {W : WX} {E : XK} {tb : TE} {p1 p2 : Pos}
    (I : Inv X pins σ H s) (L : LamS X.env.scope scope) (hf : s.heap.get? f = some (PySem.W.kla_obj "<lambda>" (X.env.qual ++ "<lambda>") params body scope (cloFrom X.env.cells scope.names []) pm c' ctv)) (hfn : H f = none) (hfr : f ∉ frs X.stack)
    (hbind : bindArgs (PySem.W.kla_fn "<lambda>" (X.env.qual ++ "<lambda>") params body scope (cloFrom X.env.cells scope.names []) pm (.ref c') ctv) ⟨[], []⟩ = pure [])
    (tk : L2N.Takes ((cxOf CXg X.prog X.w X.K X.mg X.base Ng qg sg g cdg X.A X.stack s H Eg).tr pn xe) W) (hW : ∀ cls d σ' H', E cls d H' → W cls d σ' H') (hr : Room (k + 1) (X.A.deeper (envOfC qg sg s.heap.objs.size g cdg)))
    (hbody : ∀ (A : Around) (outer : List Env) (s : Shared) (H : Hp), Room k (A.deeper (lamEnv X scope s.heap.objs.size f c')) → PE (lamN X A outer s H E scope f c') body tb)
    (hN : Ng[i]? = some a) (hv : Vis sg a) (hd : (a == ("__debug__" : Str)) = false := by decide) (hcd : (a == ("__classdict__" : Str)) = false := by decide) :
    PE ((cxOf CXg X.prog X.w X.K X.mg X.base Ng qg sg g cdg X.A X.stack s H Eg).tr pn xe) (.Call (.Name a p1) [] [] p2)
      (fun σZ HZ Q => σZ[i]? = some (some (.ref f)) ∧ HZ c' = some (CodeO c' (X.env.qual ++ "<lambda>")) ∧ tb σ HZ Q) := by
  refine ⟨fun pinsZ sZ σZ HZ Q IZ ⟨hs, hc, ht⟩ => ?_⟩
  refine wpAny_Call_Name_kw (thn ((pe_var (pos := p1) (i := i) hN hv hd hcd).run pinsZ sZ σZ HZ (fun v H1 => v = .ref f ∧ H1 = HZ) IZ ⟨.ref f, hs, rfl, rfl⟩) fun u s1 ⟨v, H1, I1, r1, ev, eH⟩ => ?_)
  subst ev eH
  obtain rfl : u = Value.ref f := r1
  have of1 := I1.base.keep f _ hf hfn hfr (fun z => nomatch (show f ∈ ([] : List Addr) from z))
  refine PySem.W.callWith_F0 ⟨_, _, _, _, of1⟩ ?_
  have un : Un (frs X.stack) [] H H1 s.heap s1.heap := I1.base
  obtain ⟨⟨oc, vs, t, hoc, hdc, hvc⟩, _, _⟩ := I1.hok c' _ hc
  have rc : codeAny (model X.prog X.w) (X.A.deeper (envOfC qg sg s.heap.objs.size g cdg)) (.call (.ref f) ⟨[], []⟩) (CR (L2N.CX X.prog X.w) (envOfC qg sg s.heap.objs.size g cdg :: X.stack) X.prog X.w H1 s1 Q E) s1 := by
    refine PySem.W.kla_callFunE hr.depth of1 rfl L.co L.gen rfl ⟨c', oc, vs, t, rfl, hoc, hdc, hvc⟩ ?_
    rw [hbind]
    refine wpAny_pure (wpAny_newFunctionEnv (fun y hy => (L.own y hy).2) (fun y hy => absurd hy (by simp)) (fun h₁ hns hsb => ⟨I1.nolimit.fresh _ hsb, ?_⟩) L.kind)
    show codeAny _ _ (.expr body (lamEnv X scope s1.heap.objs.size f c')) _ _
    have kp : ∀ b o, s1.heap.get? b = some o → h₁.get? b = some o := fun b o e => hsb.extBut b o (Nat.ne_of_lt (Heap.lt_size e)) (Heap.get?_push_of_some _ e)
    have J := inv_lamN (lam_start2 (E := E) (f := f) (c' := c') (tk := s1.toks + ([] : List (Str × Value)).length) I L I1.env0 hr.hd un hns kp)
    refine PySem.W.kla_codeExpr (wpAny_mono ((hbody _ _ s1 H1 (hr.deeper _)).run [] _ _ H1 Q J ht) (fun v s' hq => ?_) fun e s' hq => hq)
    obtain ⟨w', H', J', rv, q⟩ := hq
    exact ⟨w', H', J'.os, J'.bare, J'.base, J'.hok, rv, q⟩
  refine wpAny_call (codeAny_mono rc fun r s' hq => ?_)
  cases r with
  | error e => exact L2N.passes_call tk hW pinsZ σZ H1 s1 e s' I1 hq
  | ok fl =>
    cases fl with
    | ret u => exact I1.after hq
    | next => exact False.elim hq
    | brk => exact False.elim hq
    | cont => exact False.elim hq
end
/-- the lambda is made: tables stay tables -/
theorem lam_make3 {X : Cx} {pins : List (Addr × Obj)} {σ : St'} {H : Hp} {s : Shared} {T : List (Addr × Str)} {c P : Addr} {params : Arguments} {body : Expr} {scope : Scope} {pos : Pos} {E : Value → Shared → Prop} {Q : Value → Shared → Prop} (I : Inv X pins σ H s) (TB : TabB X.base X.mg c P) (hcode : X.env.code = .ref c)
    (hm : (P, X.env.qual ++ "<lambda>") ∈ T) (hu : ∀ p ∈ T, p.1 = P → p.2 = X.env.qual ++ "<lambda>") (hT : Tabs T H) (hdef : defaultsOf params X.env = ([], [])) (hfree : ∀ y ∈ scope.names, y.2 = .free → ∃ c, X.env.cells.lookup y.1 = some c)
    (h : ∀ (f c' : Addr) (pm ctv : Value) (H1 : Hp) (s' : Shared), Inv X pins σ H1 s' → ExtN H H1 → (∀ a ps, H a = some (.tbl ps) → ∃ qs, H1 a = some (.tbl qs)) → Tabs T H1 →
      s'.heap.get? f = some (PySem.W.kla_obj "<lambda>" (X.env.qual ++ "<lambda>") params body scope (cloFrom X.env.cells scope.names []) pm c' ctv) → H1 f = none → f ∉ frs X.stack → H1 c' = some (CodeO c' (X.env.qual ++ "<lambda>")) → Q (.ref f) s') :
    wpAny (model X.prog X.w) X.A (eval (.Lambda params body scope pos) X.env) Q E s := by
  obtain ⟨ps, hP, ht, ha⟩ := hT _ hm
  have bP := TB.bm.keeps I.bk
  have hP' : s.heap.get? P = some { cls := .none, data := .fields ps } := I.hok P _ hP
  have nofr : ∀ f, s.heap.objs.size ≤ f → f ∉ frs X.stack := fun f hf z => (List.mem_cons.mp (I.stkSub _ z)).elim (fun e => absurd (Nat.lt_of_lt_of_le (e ▸ I.lt) hf) (Nat.lt_irrefl _)) (I.nofs hf)
  refine PySem.W.kla_eval hdef ?_
  cases hc : codeAmong pos ps.toList with
  | some cv =>
    obtain ⟨c', e, hco⟩ := ha pos cv hc
    subst e
    refine PySem.W.kla_makeFunctionHit (mg := X.mg) (c := c) (P := P) (ps := ps) (closure_ok hfree) I.ok.glob (I.mod.glob.keeps I.bk) hcode (TB.code.keeps I.bk) hP' ht hc bP fun ctv h' tk hx hsz => ?_
    have I1 := I.kept (t' := tk) (h' := h'.push (PySem.W.kla_obj "<lambda>" (X.env.qual ++ "<lambda>") params body scope (cloFrom X.env.cells scope.names []) ((X.mg "__name__").getD .none) c' ctv)) fun b o e => Heap.get?_push_of_some _ (hx b o e)
    exact h h'.objs.size c' ((X.mg "__name__").getD .none) ctv H _ I1 (ExtN.refl H) (fun a qs e => ⟨qs, e⟩) hT (Heap.get?_push_size _ rfl) (I.hok.fresh hsz) (nofr _ hsz) hco
  | none =>
    refine PySem.W.kla_makeFunction (mg := X.mg) (c := c) (P := P) (ps := ps) (closure_ok hfree) I.ok.glob (I.mod.glob.keeps I.bk) hcode (TB.code.keeps I.bk) hP' ht hc TB.gP bP fun c' ctv h' tk hx hge hlt hrec htb => ?_
    obtain ⟨c2, oc, vs, t, e2, hoc, hd, hv⟩ := hrec
    cases e2
    have hsz := Nat.le_trans hge (Nat.le_of_lt hlt)
    have nC : H c' = none := I.hok.fresh hge
    have nPc : P ≠ c' := ne_of_none hP nC
    have I1 := inv_table (t' := tk) (more := #[rawInt pos.line, rawInt pos.col, .ref c']) (h' := h'.push (PySem.W.kla_obj "<lambda>" (X.env.qual ++ "<lambda>") params body scope (cloFrom X.env.cells scope.names []) ((X.mg "__name__").getD .none) c' ctv)) I hP
      (fun b o hb e => Heap.get?_push_of_some _ (hx b o hb e)) (Heap.get?_push_of_some _ htb) hge ⟨oc, vs, t, Heap.get?_push_of_some _ hoc, hd, hv⟩
    have keepN : ∀ b o, H b = some o → b ≠ P → upd (upd H P (.tbl (ps ++ #[rawInt pos.line, rawInt pos.col, .ref c']))) c' (CodeO c' (X.env.qual ++ "<lambda>")) b = some o := fun b o e n => by rw [upd_ne (ne_of_none e nC), upd_ne n]; exact e
    have hE : ExtN H (upd (upd H P (.tbl (ps ++ #[rawInt pos.line, rawInt pos.col, .ref c']))) c' (CodeO c' (X.env.qual ++ "<lambda>"))) := fun b o e n => keepN b o e fun z => n ps (Option.some.inj (e.symm.trans (by rw [z]; exact hP)))
    have atP : upd (upd H P (.tbl (ps ++ #[rawInt pos.line, rawInt pos.col, .ref c']))) c' (CodeO c' (X.env.qual ++ "<lambda>")) P = some (.tbl (ps ++ #[rawInt pos.line, rawInt pos.col, .ref c'])) := by rw [upd_ne nPc, upd_same]
    have eL : (ps ++ #[rawInt pos.line, rawInt pos.col, .ref c']).toList = ps.toList ++ [rawInt pos.line, rawInt pos.col, .ref c'] := by simp
    have n2 : h'.objs.size ≠ P := Nat.ne_of_gt (Nat.lt_of_lt_of_le (Heap.lt_size hP') hsz)
    refine h h'.objs.size c' ((X.mg "__name__").getD .none) ctv _ _ I1 hE (fun a qs e => ?_) (fun p hp => ?_) (Heap.get?_push_size _ rfl) (by rw [upd_ne (Nat.ne_of_gt hlt), upd_ne n2]; exact I.hok.fresh hsz) (nofr _ hsz) upd_same
    · by_cases z : a = P
      · rw [z]
        exact ⟨_, atP⟩
      · exact ⟨qs, keepN a _ e z⟩
    · by_cases hb : p.1 = P
      · rw [hu p hp hb, hb]
        refine ⟨_, atP, by rw [eL]; exact PySem.TriplesOk_snoc _ _ _ _ ht, fun p' cv hcv => ?_⟩
        rw [eL] at hcv
        rcases among_app _ ht hcv with z | z
        · obtain ⟨c0, e1, e2⟩ := ha p' cv z
          exact ⟨c0, e1, hE _ _ e2 codeO_ne⟩
        · exact ⟨c', z, upd_same⟩
      · obtain ⟨ps', a1, a2, a3⟩ := hT p hp
        refine ⟨ps', keepN _ _ a1 hb, a2, fun p' cv hcv => ?_⟩
        obtain ⟨c0, e1, e2⟩ := a3 p' cv hcv
        exact ⟨c0, e1, hE _ _ e2 codeO_ne⟩
def tLamN (T : List (Addr × Str)) (TT : (XK → Hp → VK → Prop) → Hp → VK → Prop) (t : XK → TE) : TE := fun σ H Q => Tabs T H ∧ ∀ H1, ExtN H H1 → (∀ a ps, H a = some (.tbl ps) → ∃ qs, H1 a = some (.tbl qs)) → Tabs T H1 → TT (fun E H' Q' => t E σ H' Q') H1 Q
/-- what the def makes of the lambda's reading -/
def GivesN (X : Cx) (Ng : List Str) (x : Str) (sg : Scope) (g : Addr) (cdg : Value) (bg : List Stmt) (a : Str) (q : Str) (k : Nat) (TT : (XK → Hp → VK → Prop) → Hp → VK → Prop) : Prop :=
  ∀ (f c' : Addr) (s : Shared) (H : Hp) (Q : VK) (tl : XK → Hp → VK → Prop), Room k (X.A.deeper (envOfC x sg s.heap.objs.size g cdg)) →
    (∀ (W : WX) (pn : List (Addr × Obj)) (xe : Value → Shared → Prop) (E : XK) (p1 p2 : Pos), L2N.Takes ((cxOf C8.CX0 X.prog X.w X.K X.mg X.base Ng x sg g cdg X.A X.stack s H C8.E0).tr pn xe) W → (∀ cls d σ' H', E cls d H' → W cls d σ' H') →
      PE ((cxOf C8.CX0 X.prog X.w X.K X.mg X.base Ng x sg g cdg X.A X.stack s H C8.E0).tr pn xe) (.Call (.Name a p1) [] [] p2) (fun σZ HZ Q => σZ[0]? = some (some (.ref f)) ∧ HZ c' = some (CodeO c' q) ∧ tl E HZ Q)) →
    H c' = some (CodeO c' q) → TT tl H Q →
    ∃ t, PSs (cxOf C8.CX0 X.prog X.w X.K X.mg X.base Ng x sg g cdg X.A X.stack s H C8.E0).nox bg t ∧ t { nx := fun _ H' => Q .non H', rt := Q } (L2.start Ng [.ref f]) H
section
variable {X : Cx}
/-- x(lambda: body) -/
theorem pe_lamcallN {T : List (Addr × Str)} {TT : (XK → Hp → VK → Prop) → Hp → VK → Prop} {x a : Str} {g c P : Addr} {k : Nat} {pg : Arguments} {bg : List Stmt} {sg : Scope} {dV kV doc pm cdv ct oc : Value} {an od : Option Addr} {osl : Array (Option Value)} {Ng : List Str}
    {params : Arguments} {body : Expr} {scope : Scope} {t : XK → TE} {p lpos pos : Pos} (hg : Gl X x) (hm : X.mg x = some (.ref g)) (hk : PySem.W.keepIn X.K (.ref g) = true)
    (lk : X.K.lookup g = some ⟨oc, od, .func (PySem.W.fnOf x x pg bg sg dV kV doc pm an cdv ct), osl⟩) (hcg : PySem.W.codeIn X.K cdv x = true) (hb : L2.Binds X.K (PySem.W.fnOf x x pg bg sg dV kV doc pm an cdv ct) [a] []) (Sg : FnScope Ng [a] sg) (hNg : Ng[0]? = some a) (hva : Vis sg a)
    (hG : GivesN X Ng x sg g cdv bg a (X.env.qual ++ "<lambda>") (k + 1) TT)
    (TB : TabB X.base X.mg c P) (hcode : X.env.code = .ref c) (hmT : (P, X.env.qual ++ "<lambda>") ∈ T) (hu : ∀ p ∈ T, p.1 = P → p.2 = X.env.qual ++ "<lambda>") (hr : Room (k + 2) X.A) (L : LamS X.env.scope scope) (hdef : defaultsOf params X.env = ([], []))
    (hbind : ∀ (q : Str) (cl : List (Str × Addr)) (pm cv ctv : Value), bindArgs (PySem.W.kla_fn "<lambda>" q params body scope cl pm cv ctv) ⟨[], []⟩ = pure [])
    (hbody : ∀ (A : Around) (outer : List Env) (s : Shared) (H : Hp) (E : XK) (f c' : Addr), Room k (A.deeper (lamEnv X scope s.heap.objs.size f c')) → PE (lamN X A outer s H E scope f c') body (t E))
    (hdb : (x == ("__debug__" : Str)) = false := by decide) (hd : (a == ("__debug__" : Str)) = false := by decide) (hcd : (a == ("__classdict__" : Str)) = false := by decide) :
    PE X (.Call (.Name x p) [.Lambda params body scope lpos] [] pos) (tLamN T TT t) := by
  refine ⟨fun pins s σ H Q I ⟨hT, h⟩ => ?_⟩
  refine wpAny_Call_Name_kw (ld_glob I hg hm (PySem.W.callWith_K (h₀ := X.base) I.ok.mod.kin hk ?_ (by rfl) (by rfl)) hdb)
  show wpAny _ _ (spliced ((false, eval (.Lambda params body scope lpos) X.env) :: backTo pos (starEach [] X.env))) _ _ s
  refine Calls.spliced_cons (lam_make3 I TB hcode hmT hu hT hdef (L.has I.ok) fun f c' pm' ctv H1 s' I1 eN tb T1 hf hfn hfr hco => Calls.spliced_nil ⟨I1.kIn, ?_⟩)
  have rc : codeAny (model X.prog X.w) X.A (.call (.ref g) ⟨[.ref f], []⟩) (CR C8.CX0 X.stack X.prog X.w H1 s' Q C8.E0) s' := by
    refine run_ofS (N := Ng) (ps := [a]) (us := [.ref f]) (vs := [.ref f]) lk hcg Sg hr I1.env0 (hb s' [.ref f] I1.kIn rfl) (.cons rfl .nil) rfl fun hr' => ?_
    obtain ⟨t', ht', hq'⟩ := hG f c' s' H1 Q (fun E H' Q' => t E σ H' Q') hr' (fun W pn xe E p1 p2 tk hW => pe_actN (i := 0) I1 L hf hfn hfr (hbind _ _ _ _ _) tk hW hr' (fun A outer s H hr2 => hbody A outer s H E f c' hr2) hNg hva hd hcd) hco (h H1 eN tb T1)
    exact ⟨t', ht'.nox, hq'⟩
  refine wpAny_call (codeAny_mono rc fun r s2 hq => ?_)
  cases r with
  | error e => exact (show False from hq).elim
  | ok fl =>
    cases fl with
    | ret u => exact I1.after hq
    | next => exact False.elim hq
    | brk => exact False.elim hq
    | cont => exact False.elim hq
end
/-- try: return a() / except KS as n: return wd(n) -/
def TTld (K : PySem.W.Frag) (T : List (Addr × Str)) (KS : Addr) (F : Addr → Addr → Fx) : (XK → Hp → VK → Prop) → Hp → VK → Prop := fun tl H Q =>
  tl (fun cls d H' => ∃ C, cls = .ref C ∧ d = none ∧ xcOk K C = true ∧ PySem.W.exmOne K cls (.ref KS) = some true ∧ ∀ a, H' a = none → spF K T 1 (F a C) [.ref a] H' Q fun _ _ _ => False) H Q
theorem told_givesN {X : Cx} {T : List (Addr × Str)} {x a e n wd q : Str} {sg : Scope} {g KS wf : Addr} {pw : Str} {cdg : Value} {k kw : Nat} {F : Addr → Addr → Fx} {p1 p2 p3 p4 p5 p6 p7 p8 p9 p10 : Pos} (GW : GoodW X.prog X.w X.K X.mg X.base T kw wf [pw] F) (hkw : kw ≤ k)
    (hge : sg.names.lookup e = some .globalImplicit) (hgw : sg.names.lookup wd = some .globalImplicit) (hn : sg.names.lookup n = some .local) (hnd : [a, n].Nodup) (hme : X.mg e = some (.ref KS)) (hmw : X.mg wd = some (.ref wf))
    (hde : (e == ("__debug__" : Str)) = false := by decide) (hdw : (wd == ("__debug__" : Str)) = false := by decide) (hdn : (n == ("__debug__" : Str)) = false := by decide) (hcn : (n == ("__classdict__" : Str)) = false := by decide) :
    GivesN X [a, n] x sg g cdg [.Try [.Return (some (.Call (.Name a p1) [] [] p2)) p3] [.ExceptHandler (some (.Name e p4)) (some n) [.Return (some (.Call (.Name wd p5) [.Name n p6] [] p7)) p8] p9] [] [] p10] a q k (TTld X.K T KS F) := by
  intro f c' s H Q tl hr act hc h
  let Z : Cx := (cxOf C8.CX0 X.prog X.w X.K X.mg X.base [a, n] x sg g cdg X.A X.stack s H C8.E0).nox
  have hgl : Gl Z e := hge
  have hglw : Gl Z wd := hgw
  obtain ⟨fdw, FW, bw⟩ := GW.ex
  let ts : Addr → Value → Option Addr → TS := fun b cls d => fun D σ H => (1 < σ.length → σ[1]? = some (some (.ref b))) ∧ ∃ C, cls = .ref C ∧ d = none ∧ xcOk X.K C = true ∧ spF X.K T 1 (F b C) [.ref b] H D.rt fun _ _ _ => False
  refine ⟨_, pss_one (L2N.ps_try_as (X := Z) (c := .ref KS) (i := 1) (ts := ts) (Wout := fun _ _ _ _ => False)
      (tb := fun W D σ H => ∃ Ech : XK, (∀ cls d σ' H', Ech cls d H' → W cls d σ' H') ∧ σ[0]? = some (some (.ref f)) ∧ H c' = some (CodeO c' q) ∧ tl Ech H D.rt)
      rfl rfl hnd rfl hn ⟨hgl, hde, .inl hme⟩ tk0 (fun W pn xe tk _ => ?_) (fun b oe cls d pn hz hfl => ?_)), ?_⟩
  · refine ⟨fun pins s' σ H' D I ⟨Ech, hW, h1, h2, h3⟩ => ?_⟩
    exact (pss_one (ps_ret (pos := p3) (act W pn xe Ech p1 p2 tk hW))).run pins s' σ H' D I ⟨h1, h2, h3⟩
  · refine ⟨fun pins s' σ H' D I ⟨h1, C, e1, e2, h3, h4⟩ => ?_⟩
    obtain ⟨vs, hvs⟩ := hfl
    have hot : HotP (Z.suite b ((b, oe) :: pn)) b C := ⟨rfl, oe, vs, List.mem_cons_self, by rw [hz.1, e1], by rw [hz.2.1, e2], hvs, hz.2.2 vs hvs⟩
    have rm : L2H.RoomH kw (Z.suite b ((b, oe) :: pn)).A := by
      have r2 := hr.mono hkw
      exact ⟨r2.dp, r2.un⟩
    have pv : PE (Z.suite b ((b, oe) :: pn)) (.Name n p6) _ := pe_var (i := 1) rfl (.inl hn) hdn hcn
    refine (pss_one (ps_ret (pos := p8) (pe_callW (X := Z.suite b ((b, oe) :: pn)) (q := p5) (pos := p7) (FW C h3) rm hot hglw hmw GW.kp bw pv hdw))).run pins s' σ H' D I ?_
    exact ⟨.ref b, h1 (by have := I.len; rw [this]; exact Nat.lt_succ_self 1), h4⟩
  · refine ⟨fun cls d H' => ∃ C, cls = .ref C ∧ d = none ∧ xcOk X.K C = true ∧ PySem.W.exmOne X.K cls (.ref KS) = some true ∧ ∀ b, H' b = none → spF X.K T 1 (F b C) [.ref b] H' Q fun _ _ _ => False, fun cls d σ' H' ⟨C, e1, e2, e3, e4, e5⟩ => ?_, rfl, hc, h⟩
    exact ⟨true, e4, fun _ b hb => ⟨fun hl => by rw [List.length_set] at hl; rw [List.getElem?_set_self hl], C, e1, e2, e3, e5 b hb⟩, fun z => nomatch z⟩
/-! ### by data -/
def exTold (wz : Addr → Option Str) (f : Ex) : Ex := fun ρ S => match f ρ S with
  | .ok r => .ok r
  | .exc C S' => (match wz C with
    | some z => .ok (.str z, S')
    | none => .stuck)
  | .stuck => .stuck
/-- the words that the def tells of refusals -/
def WordsOk (K : PySem.W.Frag) (KS : Addr) (F : Addr → Addr → Fx) (wz : Addr → Option Str) : Prop := ∀ (C : Addr) (z : Str), wz C = some z → xcOk K C = true ∧ PySem.W.exmOne K (.ref C) (.ref KS) = some true ∧ ∀ (a : Addr) (S : Store), F a C [.xc a C] S = .ok (.str z, S)
theorem told_imp {K : PySem.W.Frag} {T : List (Addr × Str)} {W : WX} {KS : Addr} {F : Addr → Addr → Fx} {wz : Addr → Option Str} {f : Ex} (hw : WordsOk K KS F wz) {σ : St'} {H : Hp} {Q : VK} (h : tE K T W (exTold wz f) σ H Q) : tLamN T (TTld K T KS F) (fun E => tE K T (fun cls d _ H => E cls d H) f) σ H Q := by
  obtain ⟨ρ, m, G, S, hh, h⟩ := h
  refine ⟨hh.2.tabs, fun H1 eN tb T1 => ?_⟩
  have lv : ∀ a, H1 a = none → H a = none := fun a e => by
    cases q : H a with
    | none => rfl
    | some o =>
      by_cases ht : ∃ ps, o = .tbl ps
      · obtain ⟨ps, rfl⟩ := ht
        obtain ⟨qs, q2⟩ := tb a ps q
        rw [q2] at e
        cases e
      · rw [eN a o q fun ps z => ht ⟨ps, z⟩] at e
        cases e
  have st : Stp m G H m G H1 := ⟨fun _ _ h => h, fun _ _ h => h, fun _ h => .inl h, fun a o e n _ => eN a o e n, lv, fun _ h => .inl h⟩
  have sr : Sr K T m G S H1 := by
    refine ⟨fun a o e => eN a o (hh.2.fits a o e) fun ps z => hh.2.ntbl a ps (z ▸ e), hh.2.ntbl, hh.2.len, hh.2.nd, fun n c a e1 e2 => ?_, hh.2.nG, T1⟩
    have q := hh.2.cell n c a e1 e2
    obtain ⟨o, q1, q2⟩ := hh.2.there (List.mem_of_getElem? e2)
    exact q.mono' (fun _ _ h => h) (fun _ _ h => h) (fun _ _ h => h) ((eN a o q1 q2).trans q1.symm)
  refine ⟨ρ, m, G, S, ⟨hh.1, sr⟩, ?_⟩
  unfold exTold at h
  cases e : f ρ S with
  | stuck => rw [e] at h; exact h.elim
  | ok r =>
    rw [e] at h
    exact PostE.next hh.2 st h
  | exc C S' =>
    rw [e] at h
    dsimp only at h
    cases ez : wz C with
    | none => rw [ez] at h; exact h.elim
    | some z =>
      rw [ez] at h
      obtain ⟨h1, h2, h3⟩ := hw C z ez
      intro m' G' H' st' sr'
      refine ⟨C, rfl, rfl, h1, h2, fun a ha => ⟨[.xc a C], m', G', S', rfl, .cons (.xc a C) .nil, sr', ?_⟩⟩
      rw [h3]
      exact PostE.next hh.2 (st.trans st' hh.2.fits) h
/-- told(lambda: body) -/
theorem de_told {X : Cx} {T : List (Addr × Str)} {W : WX} {x a e n wd : Str} {st : Stmt} {g c P KS wf : Addr} {pw : Str} {fdt : FuncData} {k kw : Nat} {F : Addr → Addr → Fx} {wz : Addr → Option Str} {fb : Ex} {params : Arguments} {body : Expr} {scope : Scope} {p lpos pos p1 p2 p3 p4 p5 p6 p7 p8 p9 p10 : Pos}
    (FT : FunD X.K x x (defArgs st) (defBody st) (defScope st) [] [] g fdt)
    (hst : defBody st = [.Try [.Return (some (.Call (.Name a p1) [] [] p2)) p3] [.ExceptHandler (some (.Name e p4)) (some n) [.Return (some (.Call (.Name wd p5) [.Name n p6] [] p7)) p8] p9] [] [] p10])
    (hbt : ∀ (kV doc pm : Value) (an : Option Addr) (cdv ct : Value) (us : List Value), us.length = [a].length → bindArgs (PySem.W.fnOf x x (defArgs st) (defBody st) (defScope st) .none kV doc pm an cdv ct) ⟨us, []⟩ = pure ([a].zip us))
    (Sc : FnScope [a, n] [a] (defScope st)) (hva : Vis (defScope st) a) (hge : (defScope st).names.lookup e = some .globalImplicit) (hgw : (defScope st).names.lookup wd = some .globalImplicit) (hn : (defScope st).names.lookup n = some .local) (hnd : [a, n].Nodup)
    (GW : GoodW X.prog X.w X.K X.mg X.base T kw wf [pw] F) (hkw : kw ≤ k + 1) (hw : WordsOk X.K KS F wz) (hm : X.mg x = some (.ref g)) (hme : X.mg e = some (.ref KS)) (hmw : X.mg wd = some (.ref wf))
    (TB : TabB X.base X.mg c P) (hcode : X.env.code = .ref c) (hmT : (P, X.env.qual ++ "<lambda>") ∈ T) (hu : ∀ p ∈ T, p.1 = P → p.2 = X.env.qual ++ "<lambda>") {j : Nat} (hr : Room j X.A) (hj : k + 2 ≤ j) (L : LamS X.env.scope scope) (hdef : defaultsOf params X.env = ([], []))
    (hbind : ∀ (q : Str) (cl : List (Str × Addr)) (pm cv ctv : Value), bindArgs (PySem.W.kla_fn "<lambda>" q params body scope cl pm cv ctv) ⟨[], []⟩ = pure [])
    (hbody : ∀ (A : Around) (outer : List Env) (s : Shared) (H : Hp) (E : XK) (f c' : Addr), Room k (A.deeper (lamEnv X scope s.heap.objs.size f c')) → DE (lamN X A outer s H E scope f c') T (fun cls d _ H => E cls d H) body fb)
    (hg : Gl X x) (hdb : (x == ("__debug__" : Str)) = false := by decide) (hd : (a == ("__debug__" : Str)) = false := by decide) (hcd : (a == ("__classdict__" : Str)) = false := by decide)
    (hde : (e == ("__debug__" : Str)) = false := by decide) (hdw : (wd == ("__debug__" : Str)) = false := by decide) (hdn : (n == ("__debug__" : Str)) = false := by decide) (hcn : (n == ("__classdict__" : Str)) = false := by decide) :
    DE X T W (.Call (.Name x p) [.Lambda params body scope lpos] [] pos) (exTold wz fb) := by
  have bb := FT.bindsN hbt
  obtain ⟨oc, od, dV, kV, doc, pm, an, cdv, ct, osl, rfl, lk, hcd1, _, _⟩ := FT.ex
  refine ⟨PE.imp (pe_lamcallN (t := fun E => tE X.K T (fun cls d _ H => E cls d H) fb) (TT := TTld X.K T KS F) hg hm FT.kp lk hcd1 bb Sc rfl hva ?_ TB hcode hmT hu (hr.mono hj) L hdef hbind (fun A outer s H E f c' r => (hbody A outer s H E f c' r).pe) hdb hd hcd) fun σ H Q h => told_imp hw h⟩
  rw [hst]
  exact told_givesN GW hkw hge hgw hn hnd hme hmw hde hdw hdn hcn
end DL

/-! DL20: defs that hand lambdas on; the end with tables. -/
namespace DL
open PySem PySem.Spec PyProof.Rows L2 LamX DL.Hot
/-- the name of a def's lambdas -/
def lamQ (p : He.Defn) : Str := p.1 ++ ".<locals>." ++ "<lambda>"
def TT (tf : List He.Defn) (K : PySem.W.Frag) : List (Addr × Str) := tf.map fun p => ((He.cT K p).2, lamQ p)
def nodupT (tf : List He.Defn) (K : PySem.W.Frag) : Bool := decide ((tf.map fun p => (He.cT K p).2).Nodup)
theorem tt_uniq {K : PySem.W.Frag} : ∀ {tf : List He.Defn} {p : He.Defn}, (tf.map fun p => (He.cT K p).2).Nodup → p ∈ tf → ∀ q ∈ TT tf K, q.1 = (He.cT K p).2 → q.2 = lamQ p
  | t :: tf, p, h, hp, q, hq, e => by
    rw [List.map_cons, List.nodup_cons] at h
    rcases List.mem_cons.mp hq with rfl | hq2
    · rcases List.mem_cons.mp hp with rfl | hp
      · rfl
      · exact (h.1 (List.mem_map.mpr ⟨p, hp, e.symm⟩)).elim
    · rcases List.mem_cons.mp hp with rfl | hp
      · obtain ⟨r, hr, rfl⟩ := List.mem_map.mp hq2
        exact (h.1 (List.mem_map.mpr ⟨r, hr, e⟩)).elim
      · exact tt_uniq h.2 hp q hq2 e
theorem unitsH {k : Nat} {A : Around} (r : L2H.RoomH k A) : A.units + 64 < cLine := by have := r.un; omega
theorem huH {k : Nat} {A : Around} (r : L2H.RoomH k A) : A.units + 1 < cLine := by have := r.un; omega
section
variable {P : Program} {w : World} {K : PySem.W.Frag} {mg : Str → Option Value} {base : Heap} {T : List (Addr × Str)}
/-- a def whose code object is known -/
theorem fnGL {x qual : Str} {st : Stmt} {p : He.Defn} {fd : FuncData} {kws : List (Str × V)} {N ps : List Str} {k : Nat} {s : Sx} (F : FunD K x qual (defArgs st) (defBody st) (defScope st) [] kws (He.fAd K p) fd) (Sc : FnScope N ps (defScope st))
    (hb : ∀ (kV doc pm : Value) (an : Option Addr) (cdv ct : Value) (us : List Value), us.length = ps.length → bindArgs (PySem.W.fnOf x qual (defArgs st) (defBody st) (defScope st) .none kV doc pm an cdv ct) ⟨us, []⟩ = pure (ps.zip us))
    (body : ∀ (cdv : Value) (A : Around) (outer : List Env) (s0 : Shared) (H : Hp) (E : XK), cdv = .ref (He.cT K p).1 → Room k (A.deeper (envOfC qual (defScope st) s0.heap.objs.size (He.fAd K p) cdv)) →
      DSs (cxOf (L2N.CX P w) P w K mg base N qual (defScope st) (He.fAd K p) cdv A outer s0 H E) T (fun cls d _ H => E cls d H) (defBody st) s) :
    Good P w K mg base T (k + 1) (He.fAd K p) ps (runF N.length s) := by
  have bb := F.bindsN hb
  have kp := F.kp
  obtain ⟨oc, od, dV, kV, doc, pm, an, cdv, ct, osl, rfl, lk, hcd, _, _⟩ := F.ex
  obtain ⟨c, hc⟩ := He.codeIn_ref hcd
  have ec : cdv = .ref (He.cT K p).1 := by
    rw [hc]
    exact congrArg Value.ref (He.codeOf_eq lk hc).symm
  refine ⟨⟨_, fn_of lk hcd Sc (fun vs H Q E h => spF_len h) fun A outer s0 H vs Q E hr h => ?_, bb, ⟨oc, od, osl, lk⟩⟩, kp⟩
  obtain ⟨ds, m, G, S, h1, h2, h3, h4⟩ := h
  exact ⟨_, (body cdv A outer s0 H E ec hr).ps, run_want ⟨er_start N h2, h3⟩ h4⟩
end
theorem law_at {l : PySem.W.OpenLaw} {w : World} {K : PySem.W.Frag} {k n : Nat} {x : Str} {mg : Str → Option Value} {fx : Addr} {h : Heap} {fd : FuncData} {F : Fx} {fa : List He.Fa} {fn : List He.DefD} {tf : List He.Defn} {ex : PySem.W.Frag → Bool}
    (KX : K.In h) (c : He.SaysX fa fn [] tf ex w h K) (hb : ∀ (s : Shared) (u : Value), BindsTo s fd ⟨[u], []⟩ [(x, u)])
    (hF : ∀ base : Heap, K.In base → base.Ns mainGlobals mg → (∀ p ∈ tf, TabB base mg (He.cT K p).1 (He.cT K p).2) → FnOk l.prog w K mg base (L2N.CX l.prog w) k fx fd [x] (spF K (TT tf K) 1 F))
    (law : ∀ ns : List Int, ns.length ≤ n → (∀ z ∈ ns, Builtin.Int.intBits z ≤ 1048576) → ∃ S, F [.frz (ns.map .int)] [] = .ok (.bl true, S)) : LawAtS l w K (L2N.CX l.prog w) k n x mg fx h := by
  refine ⟨fd, tf.map (He.cT K), spF K (TT tf K) 1 F, fun p hp => ?_, fun p hp => ?_, fun p hp => ?_, hb, fun H a ns hl hbits hT hS => ?_, fun base h1 h2 h3 => hF base h1 h2 fun p hp => h3 _ (List.mem_map.mpr ⟨p, hp, rfl⟩)⟩
  · obtain ⟨q, hq, rfl⟩ := List.mem_map.mp hp
    exact c.empty q hq
  · obtain ⟨q, hq, rfl⟩ := List.mem_map.mp hp
    exact c.out q hq
  · obtain ⟨q, hq, rfl⟩ := List.mem_map.mp hp
    exact PySem.W.codeHd_of_K KX (c.hd q hq)
  obtain ⟨S, e⟩ := law ns hl hbits
  let G : Hp := fun a => match H a with
    | some (.tbl _) => none
    | o => o
  have gH : ∀ a o, G a = some o → H a = some o ∧ ∀ ps, o ≠ .tbl ps := fun a o e => by
    have e : (match H a with
      | some (.tbl _) => none
      | o => o) = some o := e
    split at e
    · cases e
    · rename_i h1
      exact ⟨e, fun ps z => h1 ps (e.trans (congrArg some z))⟩
  have gS : SqL K G a (ns.map V.int) := by
    refine hS.imp (fun hR => hR.imp (fun e => ?_) fun ⟨o, e⟩ => ⟨o, ?_⟩) id
    · show (match H a with
        | some (.tbl _) => none
        | o => o) = _
      rw [e]
    · show (match H a with
        | some (.tbl _) => none
        | o => o) = _
      rw [e]
  refine ⟨[.frz (ns.map .int)], [], G, [], rfl, .cons (.frz gS (rpl_ints ns)) .nil, ⟨fun a o e => (gH a o e).1, fun a ps e => (gH a _ e).2 ps rfl, rfl, .nil, by simp, by simp, fun q hq => ?_⟩, ?_⟩
  · obtain ⟨p, hp, rfl⟩ := List.mem_map.mp hq
    exact TabS.nil (hT _ (List.mem_map.mpr ⟨p, hp, rfl⟩))
  · rw [e]
    intro v m' G' H' st sr rp
    cases rp
    rfl
theorem tt_mem {K : PySem.W.Frag} {tf : List He.Defn} {p : He.Defn} (h : p ∈ tf) : ((He.cT K p).2, lamQ p) ∈ TT tf K := List.mem_map.mpr ⟨p, h, rfl⟩
theorem nodupT_ok {K : PySem.W.Frag} {tf : List He.Defn} (h : nodupT tf K = true) : (tf.map fun p => (He.cT K p).2).Nodup := of_decide_eq_true h
/-- what the head tells of the classes of refusals -/
def xcsB (K : PySem.W.Frag) (names : List Str) (KS : Str) : Bool := names.all fun x => xcOk K (He.ga K x) && (decide (PySem.W.exmOne K (.ref (He.ga K x)) (.ref (He.ga K KS)) = some true) && (decide (PySem.W.kitOne K (.ref (He.ga K x)) (.type "ValueError") = some true) &&
  names.all fun y => decide (PySem.W.kitOne K (.ref (He.ga K x)) (.ref (He.ga K y)) = some (x == y))))
theorem xcsB_ok {K : PySem.W.Frag} {names : List Str} {KS : Str} (h : xcsB K names KS = true) {x : Str} (hx : x ∈ names) : xcOk K (He.ga K x) = true ∧ PySem.W.exmOne K (.ref (He.ga K x)) (.ref (He.ga K KS)) = some true ∧ PySem.W.kitOne K (.ref (He.ga K x)) (.type "ValueError") = some true ∧
    ∀ y ∈ names, PySem.W.kitOne K (.ref (He.ga K x)) (.ref (He.ga K y)) = some (x == y) := by
  have q := List.all_eq_true.mp h x hx
  simp only [Bool.and_eq_true, decide_eq_true_eq, List.all_eq_true] at q
  exact q
/-- the words: each class by its name -/
def wordsZ (K : PySem.W.Frag) : List Str → Addr → Option Str
  | [], _ => none
  | x :: r, C => if C = He.ga K x then some x else wordsZ K r C
theorem wordsZ_some {K : PySem.W.Frag} {C : Addr} {z : Str} : ∀ {names : List Str}, wordsZ K names C = some z → z ∈ names ∧ C = He.ga K z
  | x :: r, h => by
    unfold wordsZ at h
    split at h
    · rename_i e
      cases h
      exact ⟨List.mem_cons_self, e⟩
    · exact ⟨List.mem_cons_of_mem _ (wordsZ_some h).1, (wordsZ_some h).2⟩
theorem wordsZ_of {K : PySem.W.Frag} {KS : Str} {names all : List Str} (hb : xcsB K all KS = true) (hs : ∀ y ∈ names, y ∈ all) {x : Str} (hx : x ∈ names) : wordsZ K names (He.ga K x) = some x := by
  induction names with
  | nil => cases hx
  | cons y r ih =>
    unfold wordsZ
    split
    · rename_i e
      have h1 := xcsB_ok hb (hs x hx)
      have h2 := h1.2.2.2 x (hs x hx)
      have h3 := h1.2.2.2 y (hs y List.mem_cons_self)
      rw [← e, h2] at h3
      have h4 : (x == x) = (x == y) := Option.some.inj h3
      rw [beq_self_eq_true] at h4
      rw [beq_iff_eq.mp h4.symm]
    · rename_i e
      rcases List.mem_cons.mp hx with rfl | hx
      · exact absurd rfl e
      · exact ih (fun z hz => hs z (List.mem_cons_of_mem _ hz)) hx
/-- isinstance of the handled exception, where the model's look may not end -/
def exIsxO (x C : Addr) (o : Option Bool) (f : Ex) : Ex := fun ρ S => (f ρ S).bind fun q => match q.1, o with
  | .xc x' C', some r => if x' = x ∧ C' = C then .ok (.bl r, q.2) else .stuck
  | _, _ => .stuck
@[simp] theorem ev_IsxO {x C : Addr} {o : Option Bool} {f : Ex} {ρ : DEnv} {S : Store} : exIsxO x C o f ρ S = (f ρ S).bind fun q => match q.1, o with
  | .xc x' C', some r => if x' = x ∧ C' = C then .ok (.bl r, q.2) else .stuck
  | _, _ => .stuck := nr rfl
theorem exIsxO_some {x C : Addr} {r : Bool} {f : Ex} : exIsxO x C (some r) f = exIsx x C r f := by
  funext ρ S
  unfold exIsxO exIsx
  cases f ρ S with
  | ok q => cases h : q.1 <;> simp [h]
  | exc c S' => rfl
  | stuck => rfl
section
variable {X : Cx} {T : List (Addr × Str)} {W : WX} {a : Expr} {f : Ex} {pos : Pos}
theorem none_imp {x C : Addr} {K : PySem.W.Frag} {tq : TE} {σ : St'} {H : Hp} {Q : VK} (h : tE K T W (exIsxO x C none f) σ H Q) : tE K T W f σ H fun v H1 => tq σ H1 fun u H2 => False := by
  obtain ⟨ρ, m, G, S, hh, h⟩ := h
  refine tE.bind hh h (fun _ _ q => q) fun d S1 v m1 G1 H1 st1 hh1 rx h1 => ?_
  cases d <;> exact h1.elim
theorem de_isxO {x C D : Addr} {y : Str} {p p2 : Pos} (hp : HotP X x C) (hk : xcOk X.K C = true) (hg : Gl X "isinstance") (hm : X.mg "isinstance" = none) (hm2 : X.mg y = some (.ref D)) (ha : DE X T W a f) (hg2 : Gl X y := by rfl) (hd2 : (y == ("__debug__" : Str)) = false := by decide)
    (he : starEach [a, .Name y p2] X.env = (false, eval a X.env) :: starEach [.Name y p2] X.env := by rfl) (he2 : starEach [.Name y p2] X.env = (false, eval (.Name y p2) X.env) :: starEach [] X.env := by rfl) (hpl : (backTo pos (starEach [.Name y p2] X.env)).any (·.1) = false := by rfl) :
    DE X T W (.Call (.Name "isinstance" p) [a, .Name y p2] [] pos) (exIsxO x C (PySem.W.kitOne X.K (.ref C) (.ref D)) f) := by
  cases hr : PySem.W.kitOne X.K (.ref C) (.ref D) with
  | some r => rw [exIsxO_some]; exact de_isx hp hk hr hg hm hm2 ha hg2 hd2 he he2 hpl
  | none => exact ⟨PE.imp (pe_callB (id := "isinstance") (r := fun _ _ _ => False) (fun _ _ _ _ _ _ _ _ _ h => h.elim) hg hm (by decide +kernel) (pa_cons ha.pe (pa_cons (pe_glob (v := .ref D) hg2 hm2 rfl hd2) pa_nil he2) he) (he := he) (hpl := hpl)) fun σ H Q h => none_imp (tq := tC (.ref D)) h⟩
theorem de_isxTO {x C : Addr} {y : Str} {t : String} {p p2 : Pos} (hp : HotP X x C) (hk : xcOk X.K C = true) (hg : Gl X "isinstance") (hm : X.mg "isinstance" = none) (hg2 : Gl X y) (hm2 : X.mg y = none) (hv2 : bootBuiltins y = some (.type t)) (ha : DE X T W a f) (hn2 : y ≠ "__name__" := by decide) (hd2 : (y == ("__debug__" : Str)) = false := by decide)
    (he : starEach [a, .Name y p2] X.env = (false, eval a X.env) :: starEach [.Name y p2] X.env := by rfl) (he2 : starEach [.Name y p2] X.env = (false, eval (.Name y p2) X.env) :: starEach [] X.env := by rfl) (hpl : (backTo pos (starEach [.Name y p2] X.env)).any (·.1) = false := by rfl) :
    DE X T W (.Call (.Name "isinstance" p) [a, .Name y p2] [] pos) (exIsxO x C (PySem.W.kitOne X.K (.ref C) (.type t)) f) := by
  cases hr : PySem.W.kitOne X.K (.ref C) (.type t) with
  | some r => rw [exIsxO_some]; exact de_isxT hp hk hr hg hm hg2 hm2 hv2 ha hn2 hd2 he he2 hpl
  | none => exact ⟨PE.imp (pe_callB (id := "isinstance") (r := fun _ _ _ => False) (fun _ _ _ _ _ _ _ _ _ h => h.elim) hg hm (by decide +kernel) (pa_cons ha.pe (pa_cons (pe_bltn (v := .ty t) hg2 hm2 hv2 rfl hn2 hd2) pa_nil he2) he) (he := he) (hpl := hpl)) fun σ H Q h => none_imp (tq := tC (.ty t)) h⟩
end
end DL

/-! DL21: list(text), set(texts), by the library's walks. -/
namespace DL.Lib
open PySem PySem.Spec PyProof.Rows PySem.W
section
variable {prog : Program} {w : World} {A : Around} {E : Value → Shared → Prop} {s : Shared}
theorem hint_str {x : Str} {t : Tok} {Q : Bool → Shared → Prop} (h : Q false s) : wpAny (model prog w) A (Builtin.List.listLengthHint (.str x t)) Q E s := by
  have hT : s.TypeIs (.str x t) "str" := rfl
  unfold Builtin.List.listLengthHint
  refine wpAny_bind (wpAny_specialOf hT PySem.F.slot_str_len.lookup ?_)
  generalize hid : ("str.__len__" : String) = id0
  wp_delta
  rw [show splitId id0 = some ("str", "__len__") from by subst hid; decide +kernel]
  subst hid
  refine wpAny_bind (wpAny_isInstance (T := "str") (b := true) hT (by rw [isSubtype_type]; kernel_rfl) ?_)
  refine wpAny_ite_split (fun hab => absurd hab (by decide)) (fun _ => ?_)
  refine wpAny_ite_split (fun _ => ?_) (fun hab => absurd (by decide +kernel) hab)
  refine wpAny_bind (wpAny_typeOf hT ?_)
  exact wpAny_pure h
theorem ext_str {R : Result → Shared → Prop} {x : Str} {t : Tok} (hh : A.handled = none) (S : Addr) (res : Value) (c₀ : Nat) (hS : s.heap.get? S = some { cls := .type "list", data := .seq #[] c₀ })
    (hR : ∀ h' tk acc' c', (∀ b o, b ≠ S → s.heap.get? b = some o → h'.get? b = some o) → h'.get? S = some { cls := .type "list", dict := none, data := .seq acc' c', slots := #[] } → ItemsOf (SignAt x) acc' x.cps.size → R (.ok (.ret res)) { s with heap := h', toks := tk }) (hn : x.cps.size ≤ sizeLine) :
    wpAny (model prog w) A.in1 (Builtin.List.listExtendWith (.ref S) (.str x t) res)
      (fun fin s' => match fin with | .done f => R (.ok f) s' | .again c' => c'.quiet = true ∧ codeAny (model prog w) A c' R s') (fun e s' => R (.error e) s') s := by
  have hT : s.TypeIs (.str x t) "str" := rfl
  have nI : S ≠ s.heap.objs.size := Nat.ne_of_lt (Heap.lt_size hS)
  have nf : S ∉ [s.heap.objs.size] := fun z => nI (List.mem_singleton.mp z)
  unfold Builtin.List.listExtendWith
  refine wpAny_bind (wpAny_typeOf hT ?_)
  have h1 : Builtin.List.listSameRef (.ref S) (.str x t) = false := rfl
  simp only [h1, show (Value.type "str" == Value.type "list") = false by decide, show (Value.type "str" == Value.type "tuple") = false by decide, Bool.or_false, Bool.false_eq_true, if_false]
  refine wpAny_bind (wpAny_pyIter_str fun oI St W st => ?_)
  have key : ∀ (h : Heap) (c₁ tk : Nat), St 0 h → (∀ b o, b ≠ S → s.heap.get? b = some o → h.get? b = some o) → h.get? S = some { cls := .type "list", data := .seq #[] c₁ } →
      codeAny (model prog w) A (.builtin "list.extend.loop" ⟨[.ref S, .ref s.heap.objs.size, res], []⟩) R { s with heap := h, toks := tk } := by
    intro h c₁ tk hst hk hS₁
    refine codeAny_extend_loopS (W A.in1 hh).toS hn S nf res x.cps.size 0 _ #[] c₁ rfl (Nat.zero_le _) hst hS₁ (ItemsOf.nil _) fun s' acc' c' hm hS' hacc => ?_
    rw [Moved.eq_with hm]
    refine hR s'.heap s'.toks acc' c' (fun b o hb e => hm.heap b o (fun hmem => ?_) (hk b o hb e)) hS' hacc
    rcases List.mem_cons.mp hmem with e' | hmem
    · exact hb e'
    · exact absurd (Heap.lt_size e) (by rw [List.mem_singleton.mp hmem]; exact Nat.lt_irrefl _)
  have hS₁ := Heap.get?_push_of_some oI hS
  refine wpAny_bind (wpAny_holding (hint_str ?_))
  refine wpAny_ite_split (fun _ => ?_) (fun _ => wpAny_pure ⟨plainId_quiet PySem.F.plain_extend_loop _, key _ c₀ _ st (fun b o _ e => Heap.get?_push_of_some _ e) hS₁⟩)
  refine wpAny_bind (wpAny_rule ?_)
  refine wpAny_bind ?_
  show wpAny _ _ (updateSeq S (·.push .none) >>= fun _ => updateSeq S (·.pop)) _ _ _
  refine wpAny_bind (wpAny_updateSeq hS₁ rfl ?_)
  have hS₂ := Heap.get?_update_self (Obj.mapSeq (·.push Value.none)) hS₁ rfl
  refine wpAny_updateSeq (hz := by seq_fits) hS₂ rfl ?_
  have hS₃ := Heap.get?_update_self (Obj.mapSeq (·.pop)) hS₂ rfl
  refine wpAny_pure ⟨plainId_quiet PySem.F.plain_extend_loop _, key _ _ _ ?_ (fun b o hb e => ?_) hS₃⟩
  · refine (W A.in1 hh).frame 0 _ _ st fun b hb o e => ?_
    have hbS : b ≠ S := fun h => nf (h ▸ hb)
    exact (Heap.get?_update_other _ _ (Ne.symm hbS)).trans ((Heap.get?_update_other _ _ (Ne.symm hbS)).trans e)
  · exact (Heap.get?_update_other _ _ (Ne.symm hb)).trans ((Heap.get?_update_other _ _ (Ne.symm hb)).trans (Heap.get?_push_of_some _ e))
theorem call_list_text {x : Str} {t : Tok} {Q : Value → Shared → Prop} (hh : A.handled = none) (hn : x.cps.size ≤ sizeLine)
    (hQ : ∀ h' tk acc' c', (∀ b o, s.heap.get? b = some o → h'.get? b = some o) → h'.get? s.heap.objs.size = some { cls := .type "list", dict := none, data := .seq acc' c', slots := #[] } → ItemsOf (SignAt x) acc' x.cps.size → Q (.ref s.heap.objs.size) { s with heap := h', toks := tk }) :
    wpAny (model prog w) A (call (.type "list") [.str x t]) Q E s := by
  refine callType_codes (Q₁ := fun obj s₁ => obj = .ref s.heap.objs.size ∧ s₁ = { s with heap := s.heap.push { cls := .type "list", data := .seq #[] } }) PySem.F.called_list (PySem.F.typeCall_list_1 _) PySem.F.entry_list_init (code_list_new _ ⟨rfl, rfl⟩) fun obj s₁ h₁ => ?_
  obtain ⟨rfl, rfl⟩ := h₁
  have hS : (s.heap.push { cls := .type "list", data := .seq #[] }).get? s.heap.objs.size = some { cls := .type "list", data := .seq #[] } := Heap.get?_push_size _ rfl
  refine ⟨⟨_, hS, rfl⟩, PySem.F.args_list_init_2 _ _, ?_⟩
  show wpAny _ _ (do let old ← Builtin.List.listItems (.ref s.heap.objs.size); Builtin.List.listUpdate (.ref s.heap.objs.size) (fun _ => #[]); letGo old.toList.reverse; Builtin.List.listExtendWith (.ref s.heap.objs.size) (.str x t) .none) _ _ _
  refine wpAny_bind ?_
  unfold Builtin.List.listItems
  refine wpAny_bind (wpAny_seqItems hS rfl (wpAny_pure ?_))
  show wpAny _ _ (updateSeq s.heap.objs.size (fun _ => #[]) >>= fun _ => letGo (#[] : Array Value).toList.reverse >>= fun _ => Builtin.List.listExtendWith (.ref s.heap.objs.size) (.str x t) .none) _ _ _
  refine wpAny_bind (wpAny_updateSeq hS rfl ?_)
  have hS₂ := Heap.get?_update_self (Obj.mapSeq (fun _ => (#[] : Array Value))) hS rfl
  refine wpAny_bind (wpAny_letGo ?_)
  refine ext_str (A := A.in1) hh s.heap.objs.size .none _ hS₂ (fun h' tk acc' c' hk hS' hacc => ?_) hn
  exact ⟨rfl, hQ h' tk acc' c' (fun b o e => hk b o (Nat.ne_of_lt (Heap.lt_size e)) ((Heap.get?_update_other _ _ (Nat.ne_of_gt (Heap.lt_size e))).trans (Heap.get?_push_of_some _ e))) hS' hacc⟩
end
/-! ### set(texts) -/
/-- each text once, as met -/
def addS (l : List Str) (x : Str) : List Str := if l.any (· == x) then l else l ++ [x]
def metS (xs : List Str) : List Str := xs.foldl addS []
theorem metS_snoc (xs : List Str) (x : Str) : metS (xs ++ [x]) = addS (metS xs) x := by unfold metS; rw [List.foldl_append]; rfl
theorem addS_any (l : List Str) (x k : Str) : (addS l x).any (· == k) = (l.any (· == k) || decide (k = x)) := by
  unfold addS
  by_cases h : l.any (· == x) = true
  · rw [if_pos h]
    by_cases e : k = x
    · subst e; rw [h]; simp
    · simp [e]
  · rw [if_neg h, List.any_append]
    by_cases e : k = x
    · subst e; simp
    · have hb : (x == k) = false := by simpa [beq_iff_eq] using (fun h' : x = k => e h'.symm)
      simp [hb, e]
theorem addS_len (l : List Str) (x : Str) : (addS l x).length = if l.any (· == x) then l.length else l.length + 1 := by unfold addS; split <;> simp
theorem metS_le (xs : List Str) : (metS xs).length ≤ xs.length := by
  have key : ∀ (ys acc : List Str), (ys.foldl addS acc).length ≤ acc.length + ys.length := by
    intro ys
    induction ys with
    | nil => intro acc; simp
    | cons y ys ih =>
      intro acc
      have h1 := ih (addS acc y)
      have h2 := addS_len acc y
      rw [List.foldl_cons, List.length_cons]
      split at h2 <;> omega
  have := key xs []
  simpa [metS] using this
section
variable {prog : Program} {w : World} {A : Around} {R : Result → Shared → Prop} {I : Addr} {fp wr : List Addr} {G : Array GenState → Array GenState → Prop} {n : Nat} {P : Nat → Value → Prop} {St : Nat → Shared → Prop}
theorem loop_texts (W : WalksS prog w A.in1 I fp wr G n P St) (S : Addr) (hSf : S ∉ fp) (xs : List Str) (hsz : xs.length = n) (hb : n + 1 < scanBound) (hval : ∀ i v, P i v → ∃ t, v = .str (xs.getD i Str.empty) t) :
    ∀ (k i : Nat) (s : Shared), n - i = k → i ≤ n → St i s → s.heap.SetOf (PySem.strKind prog w) S (fun k' => (metS (xs.take i)).any (· == k')) (metS (xs.take i)).length →
      (∀ s', Moved (S :: wr) G s s' → s'.heap.SetOf (PySem.strKind prog w) S (fun k' => (metS xs).any (· == k')) (metS xs).length → R (.ok (.ret .none)) s') →
      codeAny (model prog w) A (.builtin "set.update.loop" ⟨[.ref S, .ref I], []⟩) R s := by
  have nw : S ∉ wr := fun h => hSf (W.sub _ h)
  have up : ∀ b ∈ wr, b ∈ S :: wr := fun b hb => List.mem_cons_of_mem _ hb
  intro k
  induction k with
  | zero =>
    intro i s hk hi hst hS hR
    have e : i = n := by omega
    subst e
    rw [List.take_of_length_le (by omega)] at hS
    refine codeAny_builtin PyProof.Rows.F.entry_set_update_loop ?_
    rw [Around.under_plainId PyProof.Rows.F.plain_set_update_loop _]
    show wpAny _ A.in1 (pyNext (.ref I) >>= _) _ _ s
    refine wpAny_bind (W.done s _ _ hst fun s' hm => ?_)
    show wpAny _ A.in1 (ret Value.none) _ _ s'
    obtain ⟨o, es, ep, t, ho, rest⟩ := hS
    exact wpAny_pure (hR s' (hm.mono up) ⟨o, es, ep, t, hm.heap S _ nw ho, rest⟩)
  | succ k ih =>
    intro i s hk hi hst hS hR
    have hlt : i < n := by omega
    refine codeAny_builtin PyProof.Rows.F.entry_set_update_loop ?_
    rw [Around.under_plainId PyProof.Rows.F.plain_set_update_loop _]
    show wpAny _ A.in1 (pyNext (.ref I) >>= _) _ _ s
    refine wpAny_bind (W.item i s _ _ hlt hst fun v s' hP hst' hm => ?_)
    obtain ⟨t, rfl⟩ := hval i v hP
    have hS1 : s'.heap.SetOf (PySem.strKind prog w) S (fun k' => (metS (xs.take i)).any (· == k')) (metS (xs.take i)).length := by
      obtain ⟨o, es, ep, tb, ho, rest⟩ := hS
      exact ⟨o, es, ep, tb, hm.heap S _ nw ho, rest⟩
    show wpAny _ A.in1 (holding [Value.str (xs.getD i Str.empty) t] (setAdd S (.str (xs.getD i Str.empty) t)) >>= _) _ _ s'
    refine wpAny_bind (wpAny_holding ?_)
    unfold setAdd
    refine wpAny_holding (wpAny_bind ((PySem.strKind prog w).pyHash (k := xs.getD i Str.empty) (strKind_is _ _ _ _) ?_))
    have room : (metS (xs.take i)).length + 1 < scanBound := by
      have h1 := metS_le (xs.take i)
      rw [List.length_take] at h1
      omega
    refine wpAny_setAddHashed_of (knd := PySem.strKind prog w) (s := { s' with toks := s'.toks + 1 }) (strKind_is _ _ _ _) rfl hS1 room fun h' hsb hS2 => ?_
    have et : xs.take (i + 1) = xs.take i ++ [xs.getD i Str.empty] := by
      have hi2 : i < xs.length := by omega
      rw [List.take_succ, List.getElem?_eq_getElem hi2]
      simp [List.getD, hi2]
    have hSi : h'.SetOf (PySem.strKind prog w) S (fun k' => (metS (xs.take (i + 1))).any (· == k')) (metS (xs.take (i + 1))).length :=
      SetOf_congr hS2 (fun k' => by rw [et, metS_snoc, addS_any]) (by rw [et, metS_snoc, addS_len])
    refine wpAny_pure ⟨plainId_quiet PyProof.Rows.F.plain_set_update_loop _, ih (i + 1) _ (by omega) hlt (W.frame _ s' _ _ hst' (Nat.le_succ _) fun b hb o e => (hsb.2 b (fun h : b = S => hSf (by rw [← h]; exact hb))).trans e) hSi fun s'' hm2 hS3 => ?_⟩
    exact hR s'' (Moved.trans W.gtrans ((hm.mono up).then_heap (Nat.le_succ _) fun b o hb e => (hsb.2 b (fun h : b = S => hb (by rw [h]; exact List.mem_cons_self))).trans e) hm2) hS3
end
section
variable {prog : Program} {w : World} {A : Around} {E : Value → Shared → Prop} {s : Shared}
theorem call_set_texts {l : Addr} {items : Array Value} {xs : List Str} {Q : Value → Shared → Prop} (hh : A.handled = none) (hl : s.heap.IsList l items) (hi : PyProof.Rows.StrsAre items.toList xs) (hb : xs.length + 1 < scanBound)
    (h : ∀ (h' : Heap) (tk : Nat), h'.SetOf (PySem.strKind prog w) s.heap.objs.size (fun k' => (metS xs).any (· == k')) (metS xs).length → (∀ b o, b < s.heap.objs.size → s.heap.get? b = some o → h'.get? b = some o) → Q (.ref s.heap.objs.size) { s with heap := h', toks := tk }) :
    wpAny (model prog w) A (call (.type "set") [.ref l]) Q E s := by
  obtain ⟨c, tl, hmro⟩ := PySem.F.called_set.mro
  have hmade := PySem.F.called_set.made
  have hsub := PySem.F.called_set.sub
  refine wpAny_call (codeAny_of_tree ?_)
  show wpAny _ _ (callAny (.type "set") _) _ _ _
  refine wpAny_pure ⟨Code.quiet_builtin _ (by decide +kernel), codeAny_builtin PySem.F.entry_type_call ?_⟩
  rw [Around.under_plain (weight_type_call_type "set" [.ref l] []) rfl]
  have h1 := PySem.F.called_set.notType
  have h2 := PySem.F.called_set.canCreate
  have hct := PySem.F.typeCall_set_1 (.ref l)
  repeat (any_goals (first | assumption | wp_step))
  generalize hNew : ({ cls := .type "set", dict := none, data := .set #[] 0 (.fresh 0 0 false) } : Obj) = dummy
  clear hNew dummy
  refine codeAny_mono (code_set_new_1 (.ref l) (E := E) (Q₁ := fun obj s₁ => ∃ led : Bool, obj = .ref s.heap.objs.size ∧ s₁ = { s with heap := s.heap.push { cls := .type "set", dict := none, data := .set #[] 0 (.fresh 0 0 led) } }) fun led => ⟨led, rfl, rfl⟩) fun r s₁ hr => ?_
  cases r with
  | error e => exact hr
  | ok fl =>
    cases fl with
    | ret obj =>
      obtain ⟨led, rfl, rfl⟩ := hr
      have gS : (s.heap.push { cls := .type "set", dict := none, data := .set #[] 0 (.fresh 0 0 led) }).get? s.heap.objs.size = some { cls := .type "set", dict := none, data := .set #[] 0 (.fresh 0 0 led) } := Heap.get?_push_size _ rfl
      have hT : Shared.TypeIs { s with heap := s.heap.push { cls := .type "set", dict := none, data := .set #[] 0 (.fresh 0 0 led) } } (.ref s.heap.objs.size) "set" := ⟨_, gS, rfl⟩
      have hli := PySem.F.called_set.init.lookup
      have hbi := PySem.F.called_set.init.bind (.ref s.heap.objs.size)
      repeat (any_goals (first | assumption | wp_step))
      refine codeAny_mono (codeAny_call_builtin (R := wants (fun r s₂ => r = .none ∧ ∃ h' tk, s₂ = { s with heap := h', toks := tk } ∧ h'.SetOf (PySem.strKind prog w) s.heap.objs.size (fun k' => (metS xs).any (· == k')) (metS xs).length ∧
          (∀ b o, b < s.heap.objs.size → s.heap.get? b = some o → h'.get? b = some o)) E) PySem.F.called_set.init.plain PySem.F.entry_set_init (check_set_init_1 hT ?_)) fun r₂ s₂ hr₂ => ?_
      · obtain ⟨⟨ocls, odict, odata, oslots⟩, hol, hcl, nl, hdl⟩ := hl
        simp only at hcl hdl
        subst hcl; subst hdl
        have hol2 := Heap.get?_push_of_some { cls := .type "set", dict := none, data := .set #[] 0 (.fresh 0 0 led) } hol
        have hsls := PySem.F.sub_list_set
        have hslf := PySem.F.sub_list_frozenset
        have hne : (Value.type "list" == Value.type "dict") = false := by decide
        have hl1 : (s.heap.push { cls := .type "set", dict := none, data := .set #[] 0 (.fresh 0 0 led) }).IsList l items := ⟨_, hol2, rfl, nl, rfl⟩
        unfold Builtin.«set.__init__» noKeywords Builtin.Frozenset.updateFrom
        generalize hPI : pyIter = PI
        wp_walk
        subst hPI
        refine wpAny_pyIter_list hl1 (wpAny_bind (wpAny_runValue ?_))
        have lS : l < s.heap.objs.size := Heap.lt_size hol
        have sz1 : (s.heap.push { cls := .type "set", dict := none, data := .set #[] 0 (.fresh 0 0 led) }).objs.size = s.heap.objs.size + 1 := Heap.size_push _ _
        have nI : l ≠ (s.heap.push { cls := .type "set", dict := none, data := .set #[] 0 (.fresh 0 0 led) }).objs.size := by rw [sz1]; exact Nat.ne_of_lt (Nat.lt_succ_of_lt lS)
        have nf : s.heap.objs.size ∉ [(s.heap.push { cls := .type "set", dict := none, data := .set #[] 0 (.fresh 0 0 led) }).objs.size, l] := by
          rw [sz1]
          simp only [List.mem_cons, List.not_mem_nil, or_false, not_or]
          exact ⟨Nat.ne_of_lt (Nat.lt_succ_self _), Nat.ne_of_gt lS⟩
        have hsz : xs.length = items.size := by rw [← StrsAre.len_eq hi, Array.length_toList]
        have hval : ∀ (i : Nat) (v : Value), items[i]? = some v → ∃ t, v = .str (xs.getD i Str.empty) t := fun i v hv => SS.strs_at hi i v (by rw [Array.getElem?_toList]; exact hv)
        refine loop_texts ((Walks.list (show A.in1.in1.in1.handled = none by simp [hh]) _ l nI items).toS) s.heap.objs.size nf xs hsz (by rw [← hsz]; exact hb) hval (items.size - 0) 0 _ (by omega) (Nat.zero_le _) ⟨⟨_, Heap.get?_push_size _ rfl, rfl, rfl⟩, (hl1.push _)⟩ ?hS0 ?hR
        case hS0 =>
          exact SetOf_congr ((setObjOf_fresh (knd := PySem.strKind prog w) led).setOf (Heap.get?_push_of_some { cls := .type "list_iterator", data := .fields #[.ref l, .int 0 0] } gS) (by unfold scanBound; omega)) (fun _ => rfl) rfl
        case hR =>
          intro s' hm hS'
          obtain ⟨h', g', d', tk', os'⟩ := s'
          have eg : g' = s.gens := hm.gens
          have ed : d' = s.drawn := hm.drawn
          have eo : os' = s.os := hm.os
          subst eg; subst ed; subst eo
          show wpAny _ _ _ _ _ _
          refine wpAny_pure ?_
          show wpAny _ _ (ret Value.none) _ _ _
          refine wpAny_pure ⟨rfl, h', tk', rfl, hS', fun b o hb e => ?_⟩
          refine hm.heap b o ?_ (Heap.get?_push_of_some _ (Heap.get?_push_of_some _ e))
          rw [sz1]
          simp only [List.mem_cons, List.not_mem_nil, or_false, not_or]
          exact ⟨Nat.ne_of_lt hb, Nat.ne_of_lt (Nat.lt_succ_of_lt hb)⟩
      · cases r₂ with
        | error e => exact hr₂
        | ok fl₂ =>
          cases fl₂ with
          | ret r =>
            obtain ⟨rfl, h', tk, rfl, hS', hk'⟩ := hr₂
            repeat (any_goals (first | assumption | wp_step))
            exact h _ _ hS' hk'
          | _ => exact hr₂.elim
    | _ => exact hr.elim
end
end DL.Lib

/-! DL22: what makes a fresh list or dict out of other things: as data, or as a cell; len(set(..)), sorted, d.get, replace. -/
namespace DL
open PySem PySem.Spec L2 DL.Lib
/-! ### order of texts -/
def leT (a b : Str) : Bool := decide (a.cps.toList ≤ b.cps.toList)
theorem leT_total (a b : Str) : (leT a b || leT b a) = true := by
  unfold leT
  rcases List.le_total a.cps.toList b.cps.toList with h | h <;> simp [h]
theorem leT_trans (a b c : Str) (h1 : leT a b = true) (h2 : leT b c = true) : leT a c = true := by
  unfold leT at *
  simp only [decide_eq_true_eq] at *
  exact List.le_trans h1 h2
theorem leT_anti {a b : Str} (h1 : leT a b = true) (h2 : leT b a = true) : a = b := by
  unfold leT at *
  simp only [decide_eq_true_eq] at *
  have h := List.le_antisymm h1 h2
  rw [str_txt a, str_txt b, h]
def sortT (xs : List Str) : List Str := xs.mergeSort leT
theorem sortT_perm (xs : List Str) : (sortT xs).Perm xs := List.mergeSort_perm xs leT
theorem sortT_sorted (xs : List Str) : (sortT xs).Pairwise fun a b => leT a b = true := List.pairwise_mergeSort (fun a b c => leT_trans a b c) (fun a b => leT_total a b) xs
theorem rising_pw : ∀ (r : List Str) (x : Str), PyProof.Rows.risingS x r = true → (x :: r).Pairwise fun a b => leT a b = true
  | [], x, _ => by simp
  | y :: r, x, h => by
    simp only [PyProof.Rows.risingS, Bool.and_eq_true, Bool.not_eq_true'] at h
    have ih := rising_pw r y h.2
    have hxy : leT x y = true := by
      have h1 := h.1
      rw [PyProof.Rows.ltCps_eq] at h1
      unfold leT
      simpa [List.not_lt] using h1
    refine List.pairwise_cons.mpr ⟨fun z hz => ?_, ih⟩
    rcases List.mem_cons.mp hz with rfl | hz
    · exact hxy
    · exact leT_trans _ _ _ hxy ((List.pairwise_cons.mp ih).1 z hz)
theorem sorted_pw {ys : List Str} (h : PyProof.Rows.sortedS ys = true) : ys.Pairwise fun a b => leT a b = true := by
  cases ys with
  | nil => simp
  | cons x r => exact rising_pw r x h
theorem sorted_uniq : ∀ {xs ys : List Str}, xs.Perm ys → (xs.Pairwise fun a b => leT a b = true) → (ys.Pairwise fun a b => leT a b = true) → xs = ys
  | [], ys, p, _, _ => by rw [List.nil_perm.mp p]
  | x :: xs, [], p, _, _ => by have := p.length_eq; simp at this
  | x :: xs, y :: ys, p, h1, h2 => by
    have hx : x ∈ y :: ys := p.mem_iff.mp List.mem_cons_self
    have hy : y ∈ x :: xs := p.mem_iff.mpr List.mem_cons_self
    have e : x = y := by
      rcases List.mem_cons.mp hx with e | hx
      · exact e
      · rcases List.mem_cons.mp hy with e | hy
        · exact e.symm
        · exact leT_anti ((List.pairwise_cons.mp h1).1 y hy) ((List.pairwise_cons.mp h2).1 x hx)
    subst e
    rw [sorted_uniq (p.cons_inv) (List.pairwise_cons.mp h1).2 (List.pairwise_cons.mp h2).2]
theorem sorted_is {xs ys : List Str} (p : ys.Perm xs) (h : PyProof.Rows.sortedS ys = true) : ys = sortT xs := sorted_uniq (p.trans (sortT_perm xs).symm) (sorted_pw h) (sortT_sorted xs)
/-! ### fresh lists -/
def FreshL (K : PySem.W.Frag) (T : List (Addr × Str)) (r : List V → Hp → VK → Prop) (gf : Store → List D → Option (List D)) : Prop :=
  ∀ (m : List Addr) (G : Hp) (S : Store) (H : Hp) (xs : List D) (vs : List V) (ds : List D) (Q : VK), Sr K T m G S H → RpL K m G vs xs → gf S xs = some ds → (∀ ys l, RpL K m G ys ds → H l = none → Q (.ref l) (upd H l (.lst ys))) → r vs H Q
def FreshK (K : PySem.W.Frag) (T : List (Addr × Str)) (r : List V → Hp → VK → Prop) (gf : Store → List D → Option (List (Key × D))) : Prop :=
  ∀ (m : List Addr) (G : Hp) (S : Store) (H : Hp) (xs : List D) (vs : List V) (ds : List (Key × D)) (Q : VK), Sr K T m G S H → RpL K m G vs xs → gf S xs = some ds → (∀ ys l, RpK K m G ys ds → H l = none → Q (.ref l) (upd H l (.dK ys))) → r vs H Q
theorem FreshL.data {K : PySem.W.Frag} {T : List (Addr × Str)} {r : List V → Hp → VK → Prop} {gf : Store → List D → Option (List D)} (h : FreshL K T r gf) : CallD K T r (fun S xs => (gf S xs).map .lst) := by
  intro m G S H xs vs d Q sr rs e p
  obtain ⟨ds, e1, rfl⟩ := Option.map_eq_some_iff.mp e
  exact h m G S H xs vs ds Q sr rs e1 fun ys l ry hl => p.alloc sr hl (fun ps z => by cases z) (.lst upd_same (rpL_alloc sr hl ry))
theorem rpK_alloc {K : PySem.W.Frag} {T : List (Addr × Str)} {m : List Addr} {G H : Hp} {S : Store} {p : Addr} {o : HO} (sr : Sr K T m G S H) (np : H p = none) {xs : List (Key × V)} {ds : List (Key × D)} (r : RpK K m G xs ds) : RpK K m (upd G p o) xs ds := r.mono (Stp.alloc (o := o) sr np)
theorem FreshK.data {K : PySem.W.Frag} {T : List (Addr × Str)} {r : List V → Hp → VK → Prop} {gf : Store → List D → Option (List (Key × D))} (h : FreshK K T r gf) : CallD K T r (fun S xs => (gf S xs).map .dct) := by
  intro m G S H xs vs d Q sr rs e p
  obtain ⟨ds, e1, rfl⟩ := Option.map_eq_some_iff.mp e
  exact h m G S H xs vs ds Q sr rs e1 fun ys l ry hl => p.alloc sr hl (fun ps z => by cases z) (.dct (.inl upd_same) (rpK_alloc sr hl ry))
/-- as a cell -/
def exNB (gf : Store → List D → Option (List D)) (g : Ax) : Ex := fun ρ S => (g ρ S).bind fun r => match gf r.2 r.1 with
  | some ds => .ok (.loc r.2.length, r.2 ++ [.lst ds])
  | none => .stuck
def exNK (gf : Store → List D → Option (List (Key × D))) (g : Ax) : Ex := fun ρ S => (g ρ S).bind fun r => match gf r.2 r.1 with
  | some ds => .ok (.loc r.2.length, r.2 ++ [.dct ds])
  | none => .stuck
section
variable {X : Cx} {T : List (Addr × Str)} {W : WX} {a b c e o : Expr} {es : List Expr} {f f1 f2 f3 : Ex} {g : Ax} {pos apos cpos : Pos}
theorem nb_imp {K : PySem.W.Frag} {r : List V → Hp → VK → Prop} {gf : Store → List D → Option (List D)} (hg : FreshL K T r gf) {σ : St} {H : Hp} {Q : VK} (h : tE K T W (exNB gf g) σ H Q) : tCB r (tA K T W g) σ H Q := by
  obtain ⟨ρ, m, G, S, hh, h⟩ := h
  refine tA.bind hh h (fun _ _ q => q) fun xs S1 vs m1 G1 H1 st1 hh1 rs h1 => ?_
  have h1' := h1.nextE hh.2 st1
  dsimp only at h1'
  cases e : gf S1 xs with
  | none => rw [e] at h1'; exact h1'.elim
  | some ds =>
    rw [e] at h1'
    exact hg m1 G1 S1 H1 xs vs ds Q hh1.2 rs e fun ys l ry hl => PostE.newCell h1' hh1.2 hl (fun ps z => by cases z) ⟨ys, upd_same, ry.mono (Stp.cell (o := .lst ys) hh1.2 hl)⟩
theorem nk_imp {K : PySem.W.Frag} {r : List V → Hp → VK → Prop} {gf : Store → List D → Option (List (Key × D))} (hg : FreshK K T r gf) {σ : St} {H : Hp} {Q : VK} (h : tE K T W (exNK gf g) σ H Q) : tCB r (tA K T W g) σ H Q := by
  obtain ⟨ρ, m, G, S, hh, h⟩ := h
  refine tA.bind hh h (fun _ _ q => q) fun xs S1 vs m1 G1 H1 st1 hh1 rs h1 => ?_
  have h1' := h1.nextE hh.2 st1
  dsimp only at h1'
  cases e : gf S1 xs with
  | none => rw [e] at h1'; exact h1'.elim
  | some ds =>
    rw [e] at h1'
    exact hg m1 G1 S1 H1 xs vs ds Q hh1.2 rs e fun ys l ry hl => PostE.newCell h1' hh1.2 hl (fun ps z => by cases z) ⟨ys, upd_same, ry.mono (Stp.cell (o := .dK ys) hh1.2 hl)⟩
/-! ### list(text) -/
def gListT (S : Store) : List D → Option (List D)
  | [.str x] => if x.length ≤ sizeLine then some (x.cps.toList.map fun c => .str ⟨#[c]⟩) else none
  | _ => none
def rListT : List V → Hp → VK → Prop := fun xs H Q => ∃ x, xs = [.str x] ∧ x.length ≤ sizeLine ∧ ∀ l, H l = none → Q (.ref l) (upd H l (.lst (x.cps.toList.map fun c => V.str ⟨#[c]⟩)))
theorem cr_listT (hc : X.calm = true) : CallR X (.type "list") rListT := by
  intro pins s σ H xs us Q I r ⟨x, ex, hx, q⟩
  subst ex
  obtain ⟨u, rfl, t, rfl⟩ := vals1 r
  refine call_list_text (I.ok.hd hc) hx fun h' tk acc' c' hk hS' hacc => ?_
  have hv : Vals (x.cps.toList.map fun c => V.str ⟨#[c]⟩) acc'.toList := by
    have el : acc'.toList.length = x.cps.toList.length := by simp [hacc.1]
    have key : ∀ (cs : List Nat) (us : List Value), us.length = cs.length → (∀ (j : Nat) (u : Value), us[j]? = some u → ∃ (c : Nat) (t : Tok), cs[j]? = some c ∧ u = Value.str ⟨#[c]⟩ t) → Vals (cs.map fun c => V.str ⟨#[c]⟩) us := by
      intro cs
      induction cs with
      | nil => intro us hl _; rw [List.length_eq_zero_iff.mp hl]; exact .nil
      | cons c cs ih =>
        intro us hl hu
        cases us with
        | nil => simp at hl
        | cons u us =>
          obtain ⟨c', t', e1, e2⟩ := hu 0 u rfl
          cases e1
          exact .cons ⟨t', e2⟩ (ih us (by simpa using hl) fun j v hv => hu (j + 1) v hv)
    refine key _ _ el fun j u hj => ?_
    obtain ⟨c, t', e1, e2⟩ := hacc.2 j u (by rw [← Array.getElem?_toList]; exact hj)
    exact ⟨c, t', by rw [Array.getElem?_toList]; exact e1, e2⟩
  exact ⟨.ref s.heap.objs.size, upd H s.heap.objs.size (.lst (x.cps.toList.map fun c => V.str ⟨#[c]⟩)), I.laid (t' := tk) hk (Nat.le_refl _) ⟨by rw [List.length_map, Array.length_toList]; exact hx, acc'.toList, c', hv, by rw [hS']⟩, rfl, q _ (I.hok.fresh (Nat.le_refl _))⟩
theorem fresh_listT {K : PySem.W.Frag} : FreshL K T rListT gListT := by
  intro m G S H xs vs ds Q sr rs e p
  unfold gListT at e
  split at e
  · rename_i x
    split at e
    · rename_i hx
      cases e
      obtain ⟨v, rfl, rv⟩ := RpL.one rs
      cases rv
      refine ⟨x, rfl, hx, fun l hl => p _ l ?_ hl⟩
      generalize x.cps.toList = cs
      induction cs with
      | nil => exact .nil
      | cons c cs ih => exact .cons (.str _) ih
    · cases e
  · cases e
theorem de_listT {p : Pos} (hc : X.calm = true) (hg : Gl X "list") (hm : X.mg "list" = none) (ha : DA X T W [e] g) (he : starEach [e] X.env = [(false, eval e X.env)] := by rfl) : DE X T W (.Call (.Name "list" p) [e] [] pos) (exB (fun S xs => (gListT S xs).map .lst) g) :=
  de_callTy (cr_listT hc) fresh_listT.data hg hm (by decide +kernel) ha (he := he) (hpl := by rfl)
theorem de_listTN {p : Pos} (hc : X.calm = true) (hg : Gl X "list") (hm : X.mg "list" = none) (ha : DA X T W [e] g) (he : starEach [e] X.env = [(false, eval e X.env)] := by rfl) : DE X T W (.Call (.Name "list" p) [e] [] pos) (exNB gListT g) :=
  ⟨PE.imp (pe_callTy (cr_listT hc) hg hm (by decide +kernel) ha.pa (he := he) (hpl := by rfl)) fun _ _ _ h => nb_imp fresh_listT h⟩
end
end DL

/-! DL23: a + b that is changed later; answers by the store. -/
namespace DL
open PySem PySem.Spec L2 DL.Lib
def gCat (S : Store) (x y : D) : Option (List D) := match lstX S x, lstX S y with
  | some xs, some ys => if xs.length + ys.length ≤ sizeLine then some (xs ++ ys) else none
  | _, _ => none
def ex2N (g : Store → D → D → Option (List D)) (f1 f2 : Ex) : Ex := fun ρ S => (f1 ρ S).bind fun r1 => (f2 ρ r1.2).bind fun r2 => match g r2.2 r1.1 r2.1 with
  | some ds => .ok (.loc r2.2.length, r2.2 ++ [.lst ds])
  | none => .stuck
section
variable {X : Cx} {T : List (Addr × Str)} {W : WX} {a b : Expr} {f1 f2 : Ex} {pos : Pos}
theorem addN_imp {K : PySem.W.Frag} {σ : St} {H : Hp} {Q : VK} (h : tE K T W (ex2N gCat f1 f2) σ H Q) : tOp rCat (tE K T W f1) (tE K T W f2) σ H Q := by
  obtain ⟨ρ, m, G, S, hh, h⟩ := h
  refine tE.bind hh h (fun _ _ q => q) fun x S1 v m1 G1 H1 st1 hh1 rx h1 => ?_
  refine tE.bind hh1 (h1.nextE hh.2 st1) (fun _ _ q => q) fun y S2 u m2 G2 H2 st2 hh2 ry h2 => ?_
  have h2' := h2.nextE hh1.2 st2
  dsimp only at h2'
  cases e : gCat S2 x y with
  | none => rw [e] at h2'; exact h2'.elim
  | some ds =>
    rw [e] at h2'
    unfold gCat at e
    cases e1 : lstX S2 x with
    | none => rw [e1] at e; cases e
    | some xs =>
      cases e2 : lstX S2 y with
      | none => rw [e1, e2] at e; cases e
      | some ys =>
        rw [e1, e2] at e
        dsimp only at e
        split at e
        case isFalse => cases e
        case isTrue hl =>
          cases e
          obtain ⟨p, us, rfl, q1, r1⟩ := lstX_at hh2.2 (rx.mono st2) e1
          obtain ⟨q, ws, rfl, q2, r2⟩ := lstX_at hh2.2 ry e2
          refine ⟨p, q, us, ws, rfl, rfl, q1, q2, by rw [r1.length, r2.length]; exact hl, fun l np => ?_⟩
          exact PostE.newCell h2' hh2.2 np (fun ps z => by cases z) ⟨us ++ ws, upd_same, (r1.append r2).mono (Stp.cell (o := .lst (us ++ ws)) hh2.2 np)⟩
theorem de_addN (ha : DE X T W a f1) (hb : DE X T W b f2) : DE X T W (.BinOp a .Add b pos) (ex2N gCat f1 f2) :=
  ⟨PE.imp (pe_op op_cat ha.pe hb.pe) fun _ _ _ h => addN_imp h⟩
end
@[simp] theorem ev_ex2N {g : Store → D → D → Option (List D)} {f1 f2 : Ex} {ρ : DEnv} {S : Store} : ex2N g f1 f2 ρ S = (f1 ρ S).bind fun r1 => (f2 ρ r1.2).bind fun r2 => match g r2.2 r1.1 r2.1 with
  | some ds => .ok (.loc r2.2.length, r2.2 ++ [.lst ds])
  | none => .stuck := nr rfl
/-! ### answers by the store -/
abbrev PxS := List D → Store → Pr
def liftS (f : PxS) : Fx := fun ds S => (f ds S).res S
section
variable {P : Program} {w : World} {K : PySem.W.Frag} {T : List (Addr × Str)} {mg : Str → Option Value} {base : Heap}
theorem fnPFS {f : Addr} {fd : FuncData} {ps : List Str} {k n : Nat} {F : Fx} {p : PxS} (h : FnOk P w K mg base (L2N.CX P w) k f fd ps (spF K T n F)) (hp : ∀ ds S, KeepsF (F ds S) (p ds S) S) : FnOk P w K mg base (L2N.CX P w) k f fd ps (spF K T n (liftS p)) := by
  refine h.imp fun vs H Q E q => ?_
  obtain ⟨ds, m, G, S, h1, h2, h3, h4⟩ := q
  refine ⟨ds, m, G, S, h1, h2, h3, ?_⟩
  have hk := hp ds S
  unfold liftS at h4
  cases e : p ds S with
  | stuck => rw [e] at h4; exact h4.elim
  | exc c =>
    rw [e] at h4 hk
    obtain ⟨g, e2⟩ := hk
    rw [e2]
    intro m' G' H' st sr
    obtain ⟨a, b⟩ := h3.cut st sr
    exact h4 m G' H' b a
  | ok d =>
    rw [e] at h4 hk
    obtain ⟨d', g, e2, hf⟩ := hk
    rw [e2]
    intro v m' G' H' st sr rp
    obtain ⟨a, b⟩ := h3.frz st sr
    rw [← h3.len] at hf
    exact h4 v m _ H' b a (Frz.rp (take_pre st.pre) sr hf rp)
theorem Good.pureFS {k : Nat} {f : Addr} {ps : List Str} {F : Fx} (g : Good P w K mg base T k f ps F) {p : PxS} (hp : ∀ ds S, KeepsF (F ds S) (p ds S) S) : Good P w K mg base T k f ps (liftS p) := by
  obtain ⟨⟨fd, h, b⟩, kp⟩ := g
  exact ⟨⟨fd, fnPFS h hp, b⟩, kp⟩
end
end DL

/-! DL24: a def whose fresh cells are handed out as data, whatever it is. -/
namespace DL
open PySem PySem.Spec L2 DL.Lib
mutual
theorem Frz.one {n : Nat} {S : Store} : ∀ {d e : D}, Frz n S d e → ∀ {e'}, Frz n S d e' → e = e'
  | _, _, .same h, _, h2 => by
    cases h2 with
    | same _ => rfl
    | lst h1 _ _ => simp only [D.under, decide_eq_true_eq] at h; omega
    | dct h1 _ _ => simp only [D.under, decide_eq_true_eq] at h; omega
    | tup h1 => simp only [D.under] at h; rw [FrzL.fix h1 h]
    | lstD h1 => simp only [D.under] at h; rw [FrzL.fix h1 h]
  | _, _, .lst a b c, _, h2 => by
    cases h2 with
    | same h => simp only [D.under, decide_eq_true_eq] at h; omega
    | lst _ b2 c2 =>
      rw [b] at b2
      injection b2 with b2
      injection b2 with b2
      subst b2
      rw [FrzL.one c c2]
    | dct _ b2 c2 => rw [b] at b2; injection b2 with b2; cases b2
  | _, _, .dct a b c, _, h2 => by
    cases h2 with
    | same h => simp only [D.under, decide_eq_true_eq] at h; omega
    | lst _ b2 c2 => rw [b] at b2; injection b2 with b2; cases b2
    | dct _ b2 c2 =>
      rw [b] at b2
      injection b2 with b2
      injection b2 with b2
      subst b2
      rw [FrzK.one c c2]
  | _, _, .tup a, _, h2 => by
    cases h2 with
    | same h => simp only [D.under] at h; rw [FrzL.fix a h]
    | tup b => rw [FrzL.one a b]
  | _, _, .lstD a, _, h2 => by
    cases h2 with
    | same h => simp only [D.under] at h; rw [FrzL.fix a h]
    | lstD b => rw [FrzL.one a b]
theorem FrzL.one {n : Nat} {S : Store} : ∀ {d e : List D}, FrzL n S d e → ∀ {e'}, FrzL n S d e' → e = e'
  | _, _, .nil, _, h2 => by cases h2; rfl
  | _, _, .cons a b, _, h2 => by
    cases h2 with
    | cons c d => rw [Frz.one a c, FrzL.one b d]
theorem FrzK.one {n : Nat} {S : Store} : ∀ {d e : List (Key × D)}, FrzK n S d e → ∀ {e'}, FrzK n S d e' → e = e'
  | _, _, .nil, _, h2 => by cases h2; rfl
  | _, _, .cons a b, _, h2 => by
    cases h2 with
    | cons c d => rw [Frz.one a c, FrzK.one b d]
theorem Frz.fix {n : Nat} {S : Store} : ∀ {d e : D}, Frz n S d e → D.under n d = true → d = e
  | _, _, .same _, _ => rfl
  | _, _, .lst a b c, h => by simp only [D.under, decide_eq_true_eq] at h; omega
  | _, _, .dct a b c, h => by simp only [D.under, decide_eq_true_eq] at h; omega
  | _, _, .tup a, h => by simp only [D.under] at h; rw [FrzL.fix a h]
  | _, _, .lstD a, h => by simp only [D.under] at h; rw [FrzL.fix a h]
theorem FrzL.fix {n : Nat} {S : Store} : ∀ {d e : List D}, FrzL n S d e → D.unders n d = true → d = e
  | _, _, .nil, _ => rfl
  | _, _, .cons a b, h => by
    simp only [D.unders, Bool.and_eq_true] at h
    rw [Frz.fix a h.1, FrzL.fix b h.2]
end
open Classical in
noncomputable def ownP (F : Fx) : PxS := fun ds S => if h : ∃ d, KeepsF (F ds S) (.ok d) S then .ok (Classical.choose h) else if h : ∃ c, KeepsF (F ds S) (.exc c) S then .exc (Classical.choose h) else .stuck
theorem ownP_keeps (F : Fx) (ds : List D) (S : Store) : KeepsF (F ds S) (ownP F ds S) S := by
  unfold ownP
  split
  · rename_i h
    exact Classical.choose_spec h
  · split
    · rename_i h
      exact Classical.choose_spec h
    · trivial
noncomputable def ownF (F : Fx) : Fx := liftS (ownP F)
theorem ownF_ok {F : Fx} {ds : List D} {S g : Store} {d d' : D} (h : F ds S = .ok (d', S ++ g)) (hf : Frz S.length (S ++ g) d' d) : ownF F ds S = .ok (d, S) := by
  have hx : ∃ d, KeepsF (F ds S) (.ok d) S := ⟨d, d', g, h, hf⟩
  show (ownP F ds S).res S = _
  unfold ownP
  rw [dif_pos hx, Pr.res_ok]
  obtain ⟨d1, g1, e1, f1⟩ := Classical.choose_spec hx
  rw [h] at e1
  injection e1 with e1
  injection e1 with e1 e2
  have e3 : g = g1 := List.append_cancel_left e2
  subst e1 e3
  rw [Frz.one f1 hf]
theorem ownF_lst {F : Fx} {ds : List D} {S g : Store} {xs : List D} {k : Nat} (h : F ds S = .ok (.loc k, S ++ g)) (hk : S.length ≤ k) (hx : (S ++ g)[k]? = some (.lst xs)) (hu : D.unders S.length xs = true) : ownF F ds S = .ok (.lst xs, S) := ownF_ok h (.lst hk hx (FrzL.same hu))
theorem ownF_same {F : Fx} {ds : List D} {S g : Store} {d : D} (h : F ds S = .ok (d, S ++ g)) (hu : D.under S.length d = true) : ownF F ds S = .ok (d, S) := ownF_ok h (.same hu)
theorem ownF_exc {F : Fx} {ds : List D} {S g : Store} {c : Addr} (h : F ds S = .exc c (S ++ g)) : ownF F ds S = .exc c S := by
  have hx : ¬ ∃ d, KeepsF (F ds S) (.ok d) S := by
    rintro ⟨d, d', g', e, _⟩
    rw [h] at e
    cases e
  have hy : ∃ c, KeepsF (F ds S) (.exc c) S := ⟨c, g, h⟩
  show (ownP F ds S).res S = _
  unfold ownP
  rw [dif_neg hx, dif_pos hy, Pr.res_exc]
  obtain ⟨g1, e1⟩ := Classical.choose_spec hy
  have e2 := h.symm.trans e1
  injection e2 with e2 _
  exact congrArg (fun c => Res.exc c S) e2.symm
theorem Good.own {P : Program} {w : World} {K : PySem.W.Frag} {T : List (Addr × Str)} {mg : Str → Option Value} {base : Heap} {k : Nat} {f : Addr} {ps : List Str} {F : Fx} (g : Good P w K mg base T k f ps F) : Good P w K mg base T k f ps (ownF F) := g.pureFS fun ds S => ownP_keeps F ds S
end DL

/-! DL25: isinstance of types, once for each pair. -/
namespace DL
open PySem PySem.Spec L2
@[simp] theorem isj_1 : isiB "int" "str" = false := nr rfl
@[simp] theorem isj_2 : isiB "int" "tuple" = false := nr rfl
@[simp] theorem isj_3 : isiB "int" "list" = false := nr rfl
@[simp] theorem isj_4 : isiB "int" "dict" = false := nr rfl
@[simp] theorem isj_5 : isiB "int" "NoneType" = false := nr rfl
@[simp] theorem isj_6 : isiB "bool" "str" = false := nr rfl
@[simp] theorem isj_7 : isiB "bool" "tuple" = false := nr rfl
@[simp] theorem isj_8 : isiB "bool" "list" = false := nr rfl
@[simp] theorem isj_9 : isiB "bool" "dict" = false := nr rfl
@[simp] theorem isj_10 : isiB "bool" "NoneType" = false := nr rfl
@[simp] theorem isj_11 : isiB "str" "int" = false := nr rfl
@[simp] theorem isj_12 : isiB "str" "bool" = false := nr rfl
@[simp] theorem isj_13 : isiB "str" "tuple" = false := nr rfl
@[simp] theorem isj_14 : isiB "str" "list" = false := nr rfl
@[simp] theorem isj_15 : isiB "str" "dict" = false := nr rfl
@[simp] theorem isj_16 : isiB "str" "NoneType" = false := nr rfl
@[simp] theorem isj_17 : isiB "tuple" "int" = false := nr rfl
@[simp] theorem isj_18 : isiB "tuple" "bool" = false := nr rfl
@[simp] theorem isj_19 : isiB "tuple" "str" = false := nr rfl
@[simp] theorem isj_20 : isiB "tuple" "list" = false := nr rfl
@[simp] theorem isj_21 : isiB "tuple" "dict" = false := nr rfl
@[simp] theorem isj_22 : isiB "tuple" "NoneType" = false := nr rfl
@[simp] theorem isj_23 : isiB "list" "int" = false := nr rfl
@[simp] theorem isj_24 : isiB "list" "bool" = false := nr rfl
@[simp] theorem isj_25 : isiB "list" "str" = false := nr rfl
@[simp] theorem isj_26 : isiB "list" "tuple" = false := nr rfl
@[simp] theorem isj_27 : isiB "list" "dict" = false := nr rfl
@[simp] theorem isj_28 : isiB "list" "NoneType" = false := nr rfl
@[simp] theorem isj_29 : isiB "dict" "int" = false := nr rfl
@[simp] theorem isj_30 : isiB "dict" "bool" = false := nr rfl
@[simp] theorem isj_31 : isiB "dict" "str" = false := nr rfl
@[simp] theorem isj_32 : isiB "dict" "tuple" = false := nr rfl
@[simp] theorem isj_33 : isiB "dict" "list" = false := nr rfl
@[simp] theorem isj_34 : isiB "dict" "NoneType" = false := nr rfl
end DL

/-! DL26: dict(pairs), dict(d), sorted, list(range), len(set(texts)), d.get(k, x). -/
namespace DL
open PySem PySem.Spec L2 DL.Lib
theorem CallR.or {X : Cx} {f : Value} {r1 r2 : List V → Hp → VK → Prop} (h1 : CallR X f r1) (h2 : CallR X f r2) : CallR X f (fun vs H Q => r1 vs H Q ∨ r2 vs H Q) := by
  intro pins s σ H vs us Q I r h
  rcases h with h | h
  · exact h1 pins s σ H vs us Q I r h
  · exact h2 pins s σ H vs us Q I r h
/-! ### dict(pairs), dict(d) -/
def pairsOf : List D → Option (List (Key × D))
  | [] => some []
  | .tup [k, d] :: r => match kOf k, pairsOf r with
    | some k, some r => some ((k, d) :: r)
    | _, _ => none
  | _ => none
def gDict (S : Store) : List D → Option (List (Key × D))
  | [x] => match dctOf S x with
    | some kvs => some kvs
    | none => match lstOf S x with
      | some ds => (pairsOf ds).map (mergeD [])
      | none => none
  | _ => none
def rDictP (K : PySem.W.Frag) : List V → Hp → VK → Prop := fun xs H Q => ∃ (a : Addr) (ps : List Addr) (kvs : List (Key × V)), xs = [.ref a] ∧ SqL K H a (ps.map V.ref) ∧ PySem.Paired (fun p kv => SqT K H p [kV kv.1, kv.2]) ps kvs ∧
    ∀ p, H p = none → Q (.ref p) (upd H p (.dK (mergeK [] kvs)))
def rDictD : List V → Hp → VK → Prop := fun xs H Q => ∃ (a : Addr) (kvs : List (Key × V)), xs = [.ref a] ∧ Rd H a (.dK kvs) ∧ ∀ p, H p = none → Q (.ref p) (upd H p (.dK kvs))
theorem pairs_rp {K : PySem.W.Frag} {T : List (Addr × Str)} {m : List Addr} {G : Hp} {S : Store} {H : Hp} (sr : Sr K T m G S H) : ∀ {ds : List D} {vs : List V} {kvs : List (Key × D)}, RpL K m G vs ds → pairsOf ds = some kvs →
    ∃ (ps : List Addr) (ks : List (Key × V)), vs = ps.map V.ref ∧ PySem.Paired (fun p kv => SqT K H p [kV kv.1, kv.2]) ps ks ∧ RpK K m G ks kvs
  | [], _, _, r, e => by
    cases r
    cases e
    exact ⟨[], [], rfl, .nil, .nil⟩
  | d :: ds, _, kvs, r, e => by
    cases r with
    | cons h1 h2 =>
      unfold pairsOf at e
      split at e
      · rename_i q
        cases q
      · rename_i k d' r' q
        cases q
        split at e
        · rename_i k' kvs' e1 e2
          cases e
          obtain ⟨ps, ks, rfl, pp, rk⟩ := pairs_rp sr h2 e2
          obtain ⟨a, xs, rfl, ht, rt⟩ := tup_at sr h1
          obtain ⟨v1, v2, rfl, r1, r2⟩ := RpL.two rt
          have := kOf_rp r1 e1
          subst this
          exact ⟨a :: ps, (k', v2) :: ks, rfl, .cons ht pp, .cons r2 rk⟩
        · cases e
      · cases e
theorem rpK_alloc' {K : PySem.W.Frag} {T : List (Addr × Str)} {m : List Addr} {G : Hp} {S : Store} {H : Hp} {kvs : List (Key × D)} {ks : List (Key × V)} (rk : RpK K m G ks kvs) : RpK K m G (mergeK [] ks) (mergeD [] kvs) := merge_rp rk .nil
theorem fresh_dict {K : PySem.W.Frag} {T : List (Addr × Str)} : FreshK K T (fun vs H Q => rDictD vs H Q ∨ rDictP K vs H Q) gDict := by
  intro m G S H xs vs ds Q sr rs e p
  unfold gDict at e
  split at e
  · rename_i x
    obtain ⟨v, rfl, rv⟩ := RpL.one rs
    split at e
    · rename_i kvs e1
      cases e
      obtain ⟨a, ks, rfl, h1, h2⟩ := dct_at sr rv e1
      exact .inl ⟨a, ks, rfl, h1, fun l hl => p _ l h2 hl⟩
    · split at e
      · rename_i xs e2
        obtain ⟨kvs, e3, rfl⟩ := Option.map_eq_some_iff.mp e
        obtain ⟨a, ys, rfl, h1, h2⟩ := lstOf_at sr rv e2
        obtain ⟨ps, ks, rfl, pp, rk⟩ := pairs_rp sr h2 e3
        exact .inr ⟨a, ps, ks, rfl, h1, pp, fun l hl => p _ l (merge_rp rk .nil) hl⟩
      · cases e
  · cases e
/-! ### sorted -/
def kD : Key → D
  | .inl i => .int i
  | .inr x => .str x
def gSort (S : Store) : List D → Option (List D)
  | [x] => match dctOf S x with
    | some kvs => match strsOf (kvs.map fun kv => kD kv.1) with
      | some xs => if xs.length < 64 then some ((sortT xs).map .str) else none
      | none => none
    | none => match lstOf S x with
      | some ds => match strsOf ds with
        | some xs => if xs.length < 64 then some ((sortT xs).map .str) else none
        | none => none
      | none => none
  | _ => none
def rSortD : List V → Hp → VK → Prop := fun xs H Q => ∃ (a : Addr) (kvs : List (Key × V)) (ks : List Str), xs = [.ref a] ∧ Rd H a (.dK kvs) ∧ kvs.map (·.1) = ks.map Sum.inr ∧ ks.length < 64 ∧
    ∀ ys p, ys.Perm ks → PyProof.Rows.sortedS ys = true → H p = none → Q (.ref p) (upd H p (.lst (ys.map V.str)))
theorem rpK_keys {K : PySem.W.Frag} {m : List Addr} {G : Hp} : ∀ {ks : List (Key × V)} {kvs : List (Key × D)}, RpK K m G ks kvs → ks.map (·.1) = kvs.map (·.1)
  | _, [], h => by cases h; rfl
  | _, p :: r, h => by
    obtain ⟨k, d⟩ := p
    cases h with
    | cons h1 h2 => rw [List.map_cons, List.map_cons, rpK_keys h2]
theorem keys_strs : ∀ {kvs : List (Key × D)} {xs : List Str}, strsOf (kvs.map fun kv => kD kv.1) = some xs → kvs.map (·.1) = xs.map Sum.inr
  | [], xs, h => by cases h; rfl
  | (k, d) :: r, xs, h => by
    cases k with
    | inl i => cases h
    | inr z =>
      have h' : (strsOf (r.map fun kv => kD kv.1)).map (z :: ·) = some xs := h
      obtain ⟨ys, e, rfl⟩ := Option.map_eq_some_iff.mp h'
      rw [List.map_cons, List.map_cons, keys_strs e]
theorem strs_rp {K : PySem.W.Frag} {m : List Addr} {G : Hp} : ∀ {vs : List V} {ds : List D} {xs : List Str}, RpL K m G vs ds → strsOf ds = some xs → vs = xs.map V.str
  | _, [], xs, r, h => by cases r; cases h; rfl
  | _, d :: ds, xs, r, h => by
    cases r with
    | cons h1 h2 =>
      cases d with
      | str z =>
        have h' : (strsOf ds).map (z :: ·) = some xs := h
        obtain ⟨ys, e, rfl⟩ := Option.map_eq_some_iff.mp h'
        cases h1
        rw [List.map_cons, strs_rp h2 e]
      | _ => cases h
theorem rpl_strs {K : PySem.W.Frag} {m : List Addr} {G : Hp} : ∀ xs : List Str, RpL K m G (xs.map V.str) (xs.map .str)
  | [] => .nil
  | x :: xs => .cons (.str x) (rpl_strs xs)
theorem fresh_sort {K : PySem.W.Frag} {T : List (Addr × Str)} : FreshL K T (fun vs H Q => rSortD vs H Q ∨ rSortedS K vs H Q) gSort := by
  intro m G S H xs vs ds Q sr rs e p
  unfold gSort at e
  split at e
  · rename_i x
    obtain ⟨v, rfl, rv⟩ := RpL.one rs
    split at e
    · rename_i kvs e1
      split at e
      · rename_i ks e2
        split at e
        · rename_i h64
          cases e
          obtain ⟨a, us, rfl, h1, h2⟩ := dct_at sr rv e1
          refine .inl ⟨a, us, ks, rfl, h1, (rpK_keys h2).trans (keys_strs e2), h64, fun ys l hp hs hl => ?_⟩
          rw [sorted_is hp hs]
          exact p _ l (rpl_strs _) hl
        · cases e
      · cases e
    · split at e
      · rename_i xs e2
        split at e
        · rename_i ks e3
          split at e
          · rename_i h64
            cases e
            obtain ⟨a, us, rfl, h1, h2⟩ := lstOf_at sr rv e2
            have := strs_rp h2 e3
            subst this
            refine .inr ⟨a, ks, rfl, h1, h64, fun ys l hp hs hl => ?_⟩
            rw [sorted_is hp hs]
            exact p _ l (rpl_strs _) hl
          · cases e
        · cases e
      · cases e
  · cases e
section
variable {X : Cx} {T : List (Addr × Str)} {W : WX} {a b c e o : Expr} {es : List Expr} {f f1 f2 f3 : Ex} {g : Ax} {pos apos cpos : Pos}
theorem de_dict {p : Pos} (hc : X.calm = true) (hg : Gl X "dict") (hm : X.mg "dict" = none) (ha : DA X T W [e] g) (he : starEach [e] X.env = [(false, eval e X.env)] := by rfl) : DE X T W (.Call (.Name "dict" p) [e] [] pos) (exB (fun S xs => (gDict S xs).map .dct) g) :=
  de_callTy (CallR.or call_dictD (call_dictP hc)) fresh_dict.data hg hm (by decide +kernel) ha (he := he) (hpl := by rfl)
theorem de_dictN {p : Pos} (hc : X.calm = true) (hg : Gl X "dict") (hm : X.mg "dict" = none) (ha : DA X T W [e] g) (he : starEach [e] X.env = [(false, eval e X.env)] := by rfl) : DE X T W (.Call (.Name "dict" p) [e] [] pos) (exNK gDict g) :=
  ⟨PE.imp (pe_callTy (CallR.or call_dictD (call_dictP hc)) hg hm (by decide +kernel) ha.pa (he := he) (hpl := by rfl)) fun _ _ _ h => nk_imp fresh_dict h⟩
theorem de_sorted {p : Pos} (hc : X.calm = true) (hg : Gl X "sorted") (hm : X.mg "sorted" = none) (ha : DA X T W [e] g) (he : starEach [e] X.env = [(false, eval e X.env)] := by rfl) : DE X T W (.Call (.Name "sorted" p) [e] [] pos) (exB (fun S xs => (gSort S xs).map .lst) g) :=
  de_callB (CallR.or (call_sortedD hc) cr_sortedS) fresh_sort.data hg hm (by decide +kernel) ha (he := he) (hpl := by rfl)
theorem de_sortedN {p : Pos} (hc : X.calm = true) (hg : Gl X "sorted") (hm : X.mg "sorted" = none) (ha : DA X T W [e] g) (he : starEach [e] X.env = [(false, eval e X.env)] := by rfl) : DE X T W (.Call (.Name "sorted" p) [e] [] pos) (exNB gSort g) :=
  ⟨PE.imp (pe_callB (CallR.or (call_sortedD hc) cr_sortedS) hg hm (by decide +kernel) ha.pa (he := he) (hpl := by rfl)) fun _ _ _ h => nb_imp fresh_sort h⟩
end
end DL

/-! DL27: list(range), len(set(texts)), d.get(k, x). -/
namespace DL
open PySem PySem.Spec L2 DL.Lib
/-- list(range(..)) -/
def rgOk (a b : Int) : Bool := decide (-(2 ^ 62) ≤ a) && (decide (a < 2 ^ 62) && (decide (-(2 ^ 62) ≤ b) && (decide (b < 2 ^ 62) && decide ((b - a).toNat ≤ 2 ^ 24))))
theorem rgOk_ok {a b : Int} (h : rgOk a b = true) : RgOk a b := by
  unfold rgOk at h
  simp only [Bool.and_eq_true, decide_eq_true_eq] at h
  exact ⟨h.1, h.2.1, h.2.2.1, h.2.2.2.1, h.2.2.2.2⟩
def rgL (a b : Int) : List D := (List.range (b - a).toNat).map fun i : Nat => .int (a + (i : Int))
/-- what a range as an argument hands on: as data, or as a cell -/
def rgEnd (cell : Bool) (i j : Int) (S : Store) : Res (D × Store) := if rgOk i j = true then (if cell = true then .ok (.loc S.length, S ++ [.lst (rgL i j)]) else .ok (.lst (rgL i j), S)) else .stuck
def exRg1 (cell : Bool) (f : Ex) : Ex := fun ρ S => (f ρ S).bind fun r => match r.1 with
  | .int j => rgEnd cell 0 j r.2
  | _ => .stuck
def exRg2 (cell : Bool) (f1 f2 : Ex) : Ex := fun ρ S => (f1 ρ S).bind fun r1 => (f2 ρ r1.2).bind fun r2 => match r1.1, r2.1 with
  | .int i, .int j => rgEnd cell i j r2.2
  | _, _ => .stuck
theorem rg_rp {K : PySem.W.Frag} {m : List Addr} {G : Hp} {a b : Int} : RpL K m G (rgV a b) (rgL a b) := by
  unfold rgV rgL
  generalize List.range (b - a).toNat = xs
  induction xs with
  | nil => exact .nil
  | cons x xs ih => exact .cons (.int _) ih
section
variable {X : Cx} {T : List (Addr × Str)} {W : WX} {a b c e o : Expr} {es : List Expr} {f f1 f2 f3 : Ex} {g : Ax} {pos apos cpos : Pos} {cell : Bool}
theorem rgEnd_want {K : PySem.W.Frag} {m : List Addr} {G H : Hp} {S : Store} {Q : VK} {B : Addr → Store → Prop} {i j : Int} (sr : Sr K T m G S H) (h : Wants (rgEnd cell i j S) (PostE K T m G H Q) B) : RgOk i j ∧ ∀ q, H q = none → Q (.ref q) (upd H q (.lst (rgV i j))) := by
  unfold rgEnd at h
  split at h
  case isFalse => exact h.elim
  case isTrue hr =>
    refine ⟨rgOk_ok hr, fun q np => ?_⟩
    split at h
    · exact PostE.newCell h sr np (fun ps z => by cases z) ⟨_, upd_same, rg_rp⟩
    · exact PostE.alloc h sr np (fun ps z => by cases z) (.lst upd_same rg_rp)
theorem rg1_imp {K : PySem.W.Frag} {σ : St} {H : Hp} {Q : VK} (h : tE K T W (exRg1 cell f) σ H Q) : tLstRg (tRg1 (tE K T W f)) σ H Q := by
  obtain ⟨ρ, m, G, S, hh, h⟩ := h
  refine tE.bind hh h (fun _ _ q => q) fun x S1 v m1 G1 H1 st1 hh1 rx h1 => ?_
  have h1' := h1.nextE hh.2 st1
  dsimp only at h1'
  cases x with
  | int j =>
    cases rx
    exact ⟨j, rfl, rgEnd_want hh1.2 h1'⟩
  | _ => exact h1'.elim
theorem rg2_imp {K : PySem.W.Frag} {σ : St} {H : Hp} {Q : VK} (h : tE K T W (exRg2 cell f1 f2) σ H Q) : tLstRg (tRg2 (tE K T W f1) (tE K T W f2)) σ H Q := by
  obtain ⟨ρ, m, G, S, hh, h⟩ := h
  refine tE.bind hh h (fun _ _ q => q) fun x S1 v m1 G1 H1 st1 hh1 rx h1 => ?_
  refine tE.bind hh1 (h1.nextE hh.2 st1) (fun _ _ q => q) fun y S2 u m2 G2 H2 st2 hh2 ry h2 => ?_
  have h2' := h2.nextE hh1.2 st2
  dsimp only at h2'
  cases x with
  | int i =>
    cases rx
    cases y with
    | int j =>
      cases ry
      exact ⟨i, j, rfl, rfl, rgEnd_want hh2.2 h2'⟩
    | _ => exact h2'.elim
  | _ => exact h2'.elim
theorem de_listRg1 {p p2 : Pos} (cell : Bool) (hc : X.calm = true) (hg : Gl X "list") (hm : X.mg "list" = none) (hg2 : Gl X "range") (hm2 : X.mg "range" = none) (ha : DE X T W a f) (na : starEach [a] X.env = (false, eval a X.env) :: starEach [] X.env := by rfl)
    (nb : starEach [.Call (.Name "range" p2) [a] [] apos] X.env = (false, eval (.Call (.Name "range" p2) [a] [] apos) X.env) :: starEach [] X.env := by rfl) : DE X T W (.Call (.Name "list" p) [.Call (.Name "range" p2) [a] [] apos] [] pos) (exRg1 cell f) :=
  ⟨PE.imp (pe_listRg hc hg hm (prg_1 hg2 hm2 ha.pe na) nb) fun _ _ _ h => rg1_imp h⟩
theorem de_listRg2 {p p2 : Pos} (cell : Bool) (hc : X.calm = true) (hg : Gl X "list") (hm : X.mg "list" = none) (hg2 : Gl X "range") (hm2 : X.mg "range" = none) (ha : DE X T W a f1) (hb : DE X T W b f2) (na : starEach [a, b] X.env = (false, eval a X.env) :: starEach [b] X.env := by rfl)
    (nb : starEach [b] X.env = (false, eval b X.env) :: starEach [] X.env := by rfl) (hp : (backTo apos (starEach [b] X.env)).any (·.1) = false := by rfl)
    (nc : starEach [.Call (.Name "range" p2) [a, b] [] apos] X.env = (false, eval (.Call (.Name "range" p2) [a, b] [] apos) X.env) :: starEach [] X.env := by rfl) : DE X T W (.Call (.Name "list" p) [.Call (.Name "range" p2) [a, b] [] apos] [] pos) (exRg2 cell f1 f2) :=
  ⟨PE.imp (pe_listRg hc hg hm (prg_2 hg2 hm2 ha.pe hb.pe na nb hp) nc) fun _ _ _ h => rg2_imp h⟩
/-! ### len(set(texts)) -/
/-- texts of a list or tuple -/
def textsOf (S : Store) : D → Option (List Str)
  | .tup ds => strsOf ds
  | x => (lstOf S x).bind strsOf
def exLenSet (f : Ex) : Ex := fun ρ S => (f ρ S).bind fun r => match (lstOf r.2 r.1).bind strsOf with
  | some xs => if xs.length + 1 < scanBound then .ok (.int ((metS xs).length : Int), r.2) else .stuck
  | none => .stuck
def tLenSetT (K : PySem.W.Frag) (ta : TE) : TE := fun σ H Q => ta σ H fun x H1 => ∃ l, ∃ xs : List Str, x = .ref l ∧ SqL K H1 l (xs.map V.str) ∧ xs.length + 1 < scanBound ∧ Q (.int (metS xs).length) H1
open PyProof.Rows in
theorem pe_lenSetT {ta : TE} {p p2 q : Pos} (hc : X.calm = true) (hg : Gl X "len") (hm : X.mg "len" = none) (hg2 : Gl X "set") (hm2 : X.mg "set" = none) (ha : PE X a ta)
    (na : starEach [a] X.env = (false, eval a X.env) :: starEach [] X.env := by rfl) : PE X (.Call (.Name "len" p) [.Call (.Name "set" p2) [a] [] q] [] pos) (tLenSetT X.K ta) := by
  refine ⟨fun pins s σ H Q I h => ?_⟩
  refine Call_ (ld_blt I hg hm boot_len ?_)
  refine PyProof.Rows.callWith_builtin1 (PyProof.Rows.args_cons ?_ rfl) rfl rfl
  refine Call_ (ld_blt I hg2 hm2 boot_set ?_)
  refine PyProof.Rows.callWith_type1 (PyProof.Rows.args_cons (thn (ha.run pins s σ H _ I h) fun v s1 ⟨x, H1, I1, r1, q1⟩ => PyProof.Rows.args_nil ?_) na) na rfl
  obtain ⟨l, xs, rfl, hq, hb, q1⟩ := q1
  cases r1
  obtain ⟨its, rv, pl, hz⟩ := I1.list hq
  have hl : its.toArray.size = xs.length := by rw [List.size_toArray, ← rv.length, List.length_map]
  refine call_set_texts (I1.ok.hd hc) pl.isList rv.strs hb fun h' tk hS hk => ?_
  refine PyProof.Rows.args_nil ?_
  obtain ⟨o, es, ep, t, ho, hex, hd, _, _, _, hf, hn⟩ := hS
  have I2 : Inv X pins σ H1 { s1 with heap := h', toks := tk } := I1.kept fun b o e => hk b o (Heap.lt_size e) e
  have hm : (metS xs).length ≤ xs.length := metS_le xs
  have hcap : scanBound = 4096 := rfl
  refine call_len_set ho hex hd hf (by rw [hn]; omega) ⟨.int (metS xs).length, H1, I2.tok _, ⟨_, by rw [hn]⟩, q1⟩
theorem lenSet_imp {K : PySem.W.Frag} {σ : St} {H : Hp} {Q : VK} (h : tE K T W (exLenSet f) σ H Q) : tLenSetT K (tE K T W f) σ H Q := by
  obtain ⟨ρ, m, G, S, hh, h⟩ := h
  refine tE.bind hh h (fun _ _ q => q) fun x S1 v m1 G1 H1 st1 hh1 rx h1 => ?_
  have h1' := h1.nextE hh.2 st1
  dsimp only at h1'
  cases e : (lstOf S1 x).bind strsOf with
  | none => rw [e] at h1'; exact h1'.elim
  | some xs =>
    rw [e] at h1'
    dsimp only at h1'
    split at h1'
    case isFalse => exact h1'.elim
    case isTrue hb =>
      obtain ⟨ds, e1, e2⟩ := Option.bind_eq_some_iff.mp e
      obtain ⟨a, us, rfl, q1, q2⟩ := lstOf_at hh1.2 rx e1
      have := strs_rp q2 e2
      subst this
      exact ⟨a, xs, rfl, q1, hb, PostE.same h1' hh1.2 (.int _)⟩
theorem de_lenSet {p p2 q : Pos} (hc : X.calm = true) (hg : Gl X "len") (hm : X.mg "len" = none) (hg2 : Gl X "set") (hm2 : X.mg "set" = none) (ha : DE X T W a f)
    (na : starEach [a] X.env = (false, eval a X.env) :: starEach [] X.env := by rfl) : DE X T W (.Call (.Name "len" p) [.Call (.Name "set" p2) [a] [] q] [] pos) (exLenSet f) :=
  ⟨PE.imp (pe_lenSetT hc hg hm hg2 hm2 ha.pe na) fun _ _ _ h => lenSet_imp h⟩
/-! ### d.get(k, x) -/
def exGet2 (fo fk fx : Ex) : Ex := fun ρ S => (fo ρ S).bind fun r1 => (match dctOf r1.2 r1.1 with
  | some _ => (fk ρ r1.2).bind fun r2 => (fx ρ r2.2).bind fun r3 => match dctOf r3.2 r1.1, kOf r2.1 with
    | some kvs, some k => .ok ((valD kvs k).getD r3.1, r3.2)
    | _, _ => .stuck
  | none => .stuck)
theorem get2_imp {K : PySem.W.Frag} {σ : St} {H : Hp} {Q : VK} (h : tE K T W (exGet2 f1 f2 f3) σ H Q) : tDGet2 (tE K T W f1) (tE K T W f2) (tE K T W f3) σ H Q := by
  obtain ⟨ρ, m, G, S, hh, h⟩ := h
  refine tE.bind hh h (fun _ _ q => q) fun x S1 v m1 G1 H1 st1 hh1 rx h1 => ?_
  have h1' := h1.nextE hh.2 st1
  dsimp only at h1'
  cases e : dctOf S1 x with
  | none => rw [e] at h1'; exact h1'.elim
  | some kvs1 =>
    rw [e] at h1'
    dsimp only at h1'
    obtain ⟨a, ks1, rfl, d1, _⟩ := dct_at hh1.2 rx e
    refine ⟨a, rfl, .inl ⟨ks1, d1⟩, ?_⟩
    refine tE.bind hh1 h1' (fun _ _ q => q) fun y S2 u m2 G2 H2 st2 hh2 ry h2 => ?_
    refine tE.bind hh2 (h2.nextE hh1.2 st2) (fun _ _ q => q) fun z S3 w m3 G3 H3 st3 hh3 rz h3 => ?_
    have h3' := h3.nextE hh2.2 st3
    dsimp only at h3'
    cases e2 : dctOf S3 x with
    | none => rw [e2] at h3'; exact h3'.elim
    | some kvs =>
      cases e3 : kOf y with
      | none => rw [e2, e3] at h3'; exact h3'.elim
      | some k =>
        rw [e2, e3] at h3'
        dsimp only at h3'
        obtain ⟨a', ks, ea, d3, rk⟩ := dct_at hh3.2 ((rx.mono st2).mono st3) e2
        cases ea
        refine ⟨valV ks k, .inl ⟨ks, k, d3, kOf_rp (ry.mono st3) e3, rfl⟩, ?_⟩
        have rv : Rp K m3 G3 ((valV ks k).getD w) ((valD kvs k).getD z) := by
          rcases valV_rp rk k with ⟨n1, n2⟩ | ⟨w', d', n1, n2, n3, _⟩
          · rw [n1, n2]; exact rz
          · rw [n1, n2]; exact n3
        exact PostE.same h3' hh3.2 rv
theorem de_get2 (hu : X.A.units + 1 < cLine) (ho : DE X T W o f1) (he : DE X T W e f2) (hf : DE X T W b f3) (mm : M2 X o "get" apos e b cpos := by exact ⟨rfl, rfl, rfl, rfl⟩) : DE X T W (.Call (.Attribute o "get" apos) [e, b] [] cpos) (exGet2 f1 f2 f3) :=
  ⟨PE.imp (pe_dget2 hu ho.pe he.pe hf.pe mm) fun _ _ _ h => get2_imp h⟩
end
end DL

/-! DL28: texts as lists of signs: join and split; books as lists of pairs. -/
namespace DL
open PySem PySem.Spec L2 TL DL.Lib
def tD (l : List Nat) : D := .str (txt l)
theorem tl_txt (l : List Nat) : tl (txt l) = l := txt_cps l
theorem map_tl_txt (ws : List (List Nat)) : (ws.map txt).map tl = ws := by
  rw [List.map_map]
  have : tl ∘ txt = id := funext tl_txt
  rw [this, List.map_id]
theorem join_txt (s : List Nat) (ws : List (List Nat)) : Txt.join (txt s) (ws.map txt) = txt (joinL s ws) := by
  rw [TL.join_eq]
  apply ext_tl
  rw [tl_join, tl_txt, tl_txt, map_tl_txt]
theorem split_txt {y : List Nat} (l : List Nat) (hy : y ≠ []) (hk : (txt y).cps.all (· < 256) = true) : Txt.split (txt l) (txt y) = (spl y 0 [] l).map txt := by
  refine map_tl_inj ?_
  rw [split_spl _ _ (by rw [tl_txt]; exact hy) (kind_ok hk), tl_txt, tl_txt, map_tl_txt]
theorem strsOf_txt : ∀ ws : List (List Nat), strsOf (ws.map tD) = some (ws.map txt)
  | [] => rfl
  | w :: ws => by
    show (strsOf (ws.map tD)).map (txt w :: ·) = _
    rw [strsOf_txt ws]
    rfl
section
variable {S : Store}
theorem g_split {y : List Nat} {l : List Nat} (hy : y ≠ []) (hk : (txt y).cps.all (· < 256) = true) (hl : l.length + 2 ≤ sizeLine) : gSplit S (tD l) (.str (txt y)) = some (.lst ((spl y 0 [] l).map tD)) := by
  have h1 : ((txt y).length == 0) = false := by
    rw [txt_len]
    cases y with
    | nil => exact absurd rfl hy
    | cons _ _ => simp
  show (if ((txt y).length == 0) = false ∧ (txt l).length + 2 ≤ sizeLine then some (D.lst ((Txt.split (txt l) (txt y)).map .str)) else none) = _
  rw [if_pos ⟨h1, by rw [txt_len]; exact hl⟩, split_txt l hy hk, List.map_map]
  rfl
theorem g_split1 {l : List Nat} (hl : l.length + 2 ≤ sizeLine) : gSplit S (tD l) (.str " ") = some (.lst ((spl [32] 0 [] l).map tD)) := g_split (y := [32]) (by simp) (by decide +kernel) hl
theorem g_split3 {l : List Nat} (hl : l.length + 2 ≤ sizeLine) : gSplit S (tD l) (.str " / ") = some (.lst ((spl [32, 47, 32] 0 [] l).map tD)) := g_split (y := [32, 47, 32]) (by simp) (by decide +kernel) hl
theorem g_join {s : List Nat} {ws : List (List Nat)} {x : D} (hx : seqOf S x = some (ws.map tD)) (hl : (ws.map List.length).sum + ws.length * s.length ≤ 16777216) : gJoin S (.str (txt s)) x = some (tD (joinL s ws)) := by
  unfold gJoin
  dsimp only
  rw [hx]
  show ((some (ws.map tD)).bind strsOf).bind _ = _
  rw [Option.bind_some, strsOf_txt, Option.bind_some, if_pos, join_txt]
  · rfl
  · have : (ws.map txt).map (·.length) = ws.map List.length := by
      rw [List.map_map]
      exact List.map_congr_left fun w _ => txt_len w
    rw [this, List.length_map, txt_len]
    exact hl
theorem g_join0 {ws : List (List Nat)} (hl : (ws.map List.length).sum ≤ 16777216) : gJoin S (.str "") (.lst (ws.map tD)) = some (tD (joinL [] ws)) := g_join (s := []) rfl (by simpa using hl)
theorem g_join1 {ws : List (List Nat)} (hl : (ws.map List.length).sum + ws.length ≤ 16777216) : gJoin S (.str " ") (.lst (ws.map tD)) = some (tD (joinL [32] ws)) := g_join (s := [32]) rfl (by simpa using hl)
theorem g_join3 {ws : List (List Nat)} (hl : (ws.map List.length).sum + ws.length * 3 ≤ 16777216) : gJoin S (.str " / ") (.lst (ws.map tD)) = some (tD (joinL [32, 47, 32] ws)) := g_join (s := [32, 47, 32]) rfl (by simpa using hl)
/-! ### joined lists -/
theorem joinL_nil : ∀ ws : List (List Nat), joinL [] ws = ws.flatten
  | [] => rfl
  | [w] => by show w = _; simp
  | w :: v :: r => by
    show w ++ ([] ++ joinL [] (v :: r)) = _
    rw [joinL_nil (v :: r)]
    simp
theorem joinL_last (s v : List Nat) : ∀ (ws : List (List Nat)) (w : List Nat), joinL s (ws ++ [w ++ v]) = joinL s (ws ++ [w]) ++ v
  | [], w => rfl
  | [a], w => by
    show a ++ (s ++ (w ++ v)) = a ++ (s ++ w) ++ v
    simp
  | a :: b :: r, w => by
    show a ++ (s ++ joinL s (b :: r ++ [w ++ v])) = a ++ (s ++ joinL s (b :: r ++ [w])) ++ v
    rw [joinL_last s v (b :: r) w]
    simp
theorem joinL_snoc (s v : List Nat) : ∀ (ws : List (List Nat)), ws ≠ [] → joinL s (ws ++ [v]) = joinL s ws ++ (s ++ v)
  | [], h => absurd rfl h
  | [a], _ => rfl
  | a :: b :: r, _ => by
    show a ++ (s ++ joinL s (b :: r ++ [v])) = a ++ (s ++ joinL s (b :: r)) ++ (s ++ v)
    rw [joinL_snoc s v (b :: r) (by simp)]
    simp
theorem joinL_cons (s w : List Nat) : ∀ (ws : List (List Nat)), ws ≠ [] → joinL s (w :: ws) = w ++ (s ++ joinL s ws)
  | [], h => absurd rfl h
  | _ :: _, _ => rfl
theorem joinL_len (s : List Nat) : ∀ ws : List (List Nat), (joinL s ws).length ≤ (ws.map List.length).sum + ws.length * s.length
  | [] => by simp [joinL]
  | [w] => by simp [joinL]
  | w :: v :: r => by
    have ih := joinL_len s (v :: r)
    show (w ++ (s ++ joinL s (v :: r))).length ≤ _
    simp only [List.length_append, List.map_cons, List.sum_cons, List.length_cons, Nat.add_mul, Nat.one_mul] at ih ⊢
    omega
theorem len_joinL (s : List Nat) : ∀ ws : List (List Nat), (ws.map List.length).sum ≤ (joinL s ws).length
  | [] => by simp [joinL]
  | [w] => by simp [joinL]
  | w :: v :: r => by
    have ih := len_joinL s (v :: r)
    show _ ≤ (w ++ (s ++ joinL s (v :: r))).length
    simp only [List.length_append, List.map_cons, List.sum_cons] at ih ⊢
    omega
theorem joinL_spl {y : List Nat} (l : List Nat) (hy : y ≠ []) (hk : (txt y).cps.all (· < 256) = true) : joinL y (spl y 0 [] l) = l := by
  have h := StrLaws.join_split (txt l) (txt y)
  rw [← TL.join_eq, split_txt l hy hk, join_txt] at h
  exact txt_inj h
theorem spl_ne (y : List Nat) : ∀ (k : Nat) (acc l : List Nat), spl y k acc l ≠ []
  | k, acc, [] => by unfold spl; simp
  | 0, acc, c :: r => by
    unfold spl
    split
    · simp
    · exact spl_ne y 0 _ r
  | k + 1, acc, c :: r => by
    unfold spl
    exact spl_ne y k acc r
/-- a part that " / " does not begin in -/
theorem free3 {p q : List Nat} (h : 47 ∉ p) (hl : p.getLast? ≠ some 32) : ∀ i, i < p.length → pre [32, 47, 32] ((p ++ q).drop i) = false := fun i hi => by
  have hlt : i < (p ++ q).length := by rw [List.length_append]; omega
  have e : (p ++ q).drop i = (p ++ q)[i] :: (p ++ q).drop (i + 1) := List.drop_eq_getElem_cons hlt
  have e1 : (p ++ q)[i] = p[i] := List.getElem_append_left hi
  rw [e, e1]
  by_cases hz : p[i] = 32
  · by_cases h2 : i + 1 < p.length
    · have hlt2 : i + 1 < (p ++ q).length := by rw [List.length_append]; omega
      have e3 : (p ++ q).drop (i + 1) = (p ++ q)[i + 1] :: (p ++ q).drop (i + 1 + 1) := List.drop_eq_getElem_cons hlt2
      have e4 : (p ++ q)[i + 1] = p[i + 1] := List.getElem_append_left h2
      have hne : p[i + 1] ≠ 47 := fun z => h (z ▸ List.getElem_mem h2)
      rw [e3, e4]
      simp [pre, hne]
    · exfalso
      apply hl
      rw [List.getLast?_eq_getElem?, show p.length - 1 = i by omega, List.getElem?_eq_getElem hi, hz]
  · exact pre_of_head _ _ hz
theorem spl3_join : ∀ {parts : List (List Nat)}, parts ≠ [] → (∀ p ∈ parts, 47 ∉ p ∧ p.getLast? ≠ some 32) → spl [32, 47, 32] 0 [] (joinL [32, 47, 32] parts) = parts
  | [], h, _ => absurd rfl h
  | [p], _, hp => by
    obtain ⟨h1, h2⟩ := hp p (List.mem_singleton.mpr rfl)
    show spl [32, 47, 32] 0 [] p = [p]
    rw [spl_last (fun i hi => by have := free3 (q := []) h1 h2 i hi; rwa [List.append_nil] at this), List.nil_append]
  | p :: q :: r, _, hp => by
    obtain ⟨h1, h2⟩ := hp p List.mem_cons_self
    show spl [32, 47, 32] 0 [] (p ++ ([32, 47, 32] ++ joinL [32, 47, 32] (q :: r))) = p :: q :: r
    rw [spl_part (by simp) (fun i hi => free3 h1 h2 i hi), List.nil_append, spl3_join (by simp) fun z hz => hp z (List.mem_cons_of_mem _ hz)]
theorem spl1_join {ws : List (List Nat)} (h : ws ≠ []) (hp : ∀ p ∈ ws, 32 ∉ p) : spl [32] 0 [] (joinL [32] ws) = ws := spl_join h hp
theorem joinL_spl1 (l : List Nat) : joinL [32] (spl [32] 0 [] l) = l := joinL_spl l (by simp) (by decide +kernel)
theorem joinL_spl3 (l : List Nat) : joinL [32, 47, 32] (spl [32, 47, 32] 0 [] l) = l := joinL_spl l (by simp) (by decide +kernel)
/-! ### truths -/
theorem blsOf_map : ∀ bs : List Bool, blsOf (bs.map .bl) = some bs
  | [] => rfl
  | b :: bs => by
    show (blsOf (bs.map .bl)).map (b :: ·) = _
    rw [blsOf_map bs]
    rfl
theorem g_all (bs : List Bool) : gAll S [.lst (bs.map .bl)] = some (.bl (bs.all id)) := by
  show ((some (bs.map D.bl)).bind blsOf).map _ = _
  rw [Option.bind_some, blsOf_map]
  rfl
/-! ### signs in texts -/
theorem in_sign (c : Nat) (z : Str) : gIn S (tD [c]) (.str z) = some (.bl (decide (c ∈ z.cps.toList))) := rfl
theorem items_txt (l : List Nat) : itemsOf S (tD l) = some (l.map fun c => tD [c], none) := by
  show some ((txt l).cps.toList.map (fun c => D.str ⟨#[c]⟩), none) = _
  rw [txt_cps]
  rfl
theorem len_tD {l : List Nat} (hl : l.length ≤ sizeLine) : gLen S [tD l] = some (.int (l.length : Int)) := by
  have := op_len_s (S := S) (x := txt l) (by rw [txt_len]; exact hl)
  rw [txt_len] at this
  exact this
theorem eq_tD {a b : List Nat} : gEq S (tD a) (tD b) = some (.bl (a == b)) := by
  show gEq S (.str (txt a)) (.str (txt b)) = _
  rw [op_eq_s, txt_eq]
theorem ne_tD {a b : List Nat} : gNe S (tD a) (tD b) = some (.bl (!(a == b))) := by
  show gNe S (.str (txt a)) (.str (txt b)) = _
  rw [op_ne_s, txt_eq]
theorem add_tD {a b : List Nat} (h : a.length + b.length ≤ sizeLine) : gAdd S (tD a) (tD b) = some (tD (a ++ b)) := by
  show gAdd S (.str (txt a)) (.str (txt b)) = _
  rw [op_add_s, txt_len, txt_len, if_pos h, txt_app]
  rfl
theorem ty_tD {l : List Nat} : tyD S (tD l) = some "str" := rfl
theorem ix_tD {l : List Nat} {i : Int} (h : l.length ≤ sizeLine) : gIx S (tD l) (.int i) = (atI l i).map fun c => tD [c] := by
  show gIx S (.str (txt l)) (.int i) = _
  rw [op_ix_s, txt_len, if_pos h, txt_cps]
  rfl
end
/-! ### texts met once -/
theorem metS_nodup {xs : List Str} (h : xs.Nodup) : metS xs = xs := by
  have key : ∀ (ys acc : List Str), (acc ++ ys).Nodup → ys.foldl addS acc = acc ++ ys := by
    intro ys
    induction ys with
    | nil => intro acc _; simp
    | cons y ys ih =>
      intro acc hn
      have : addS acc y = acc ++ [y] := by
        unfold addS
        have : acc.any (· == y) = false := by
          rw [List.any_eq_false]
          intro a ha hq
          have := (List.nodup_append.mp hn).2.2 a ha y List.mem_cons_self
          exact this (by simpa using hq)
        rw [this]
        rfl
      rw [List.foldl_cons, this, ih (acc ++ [y]) (by rw [List.append_assoc]; exact hn)]
      simp
  exact key xs [] h
/-! ### books -/
abbrev Bk := List (Nat × List Nat)
def kvB (bk : Bk) : List (Key × D) := bk.map fun p => (.inr (txt [p.1]), tD p.2)
def bkD (bk : Bk) : D := .dct (kvB bk)
theorem val_bk (bk : Bk) (l : List Nat) : valD (kvB bk) (.inr (txt l)) = (bk.find? fun p => decide ([p.1] = l)).map fun p => tD p.2 := by
  show ((kvB bk).find? fun kv => decide (kv.1 = .inr (txt l))).map (·.2) = _
  unfold kvB
  rw [List.find?_map, Option.map_map]
  have : ((fun kv : Key × D => decide (kv.1 = .inr (txt l))) ∘ fun p : Nat × List Nat => ((.inr (txt [p.1]) : Key), tD p.2)) = fun p => decide ([p.1] = l) := by
    funext p
    simp only [Function.comp, Sum.inr.injEq]
    by_cases h : [p.1] = l
    · rw [h]; simp
    · have : ¬ txt [p.1] = txt l := fun z => h (txt_inj z)
      simp [h, this]
  rw [this]
  rfl
theorem keys_bk (bk : Bk) : keysD (kvB bk) = bk.map fun p => tD [p.1] := by
  unfold keysD kvB
  rw [List.map_map]
  rfl
theorem find_key {bk : Bk} (h : (bk.map (·.1)).Nodup) {p : Nat × List Nat} (hp : p ∈ bk) : bk.find? (fun q => decide ([q.1] = [p.1])) = some p := by
  induction bk with
  | nil => cases hp
  | cons q r ih =>
    rw [List.map_cons, List.nodup_cons] at h
    rcases List.mem_cons.mp hp with rfl | hp
    · rw [List.find?_cons_of_pos]
      simp
    · rw [List.find?_cons_of_neg]
      · exact ih h.2 hp
      · simp only [List.cons.injEq, and_true, decide_eq_true_eq]
        intro z
        exact h.1 (by rw [z]; exact List.mem_map_of_mem hp)
end DL

/-! DL29: a dict, whatever it holds, against {}. -/
namespace DL
open PySem PySem.Spec L2 DL.Lib
def rEqE : R2 := fun x y H Q => ∃ (a b : Addr) (la : List (Key × V)), x = .ref a ∧ y = .ref b ∧ Rd H a (.dK la) ∧ Rd H b (.dK []) ∧ Q (.bl la.isEmpty) H
theorem op_eqE {X : Cx} (hu : X.A.units < cLine) : OpR X (compareOp .Eq) rEqE := by
  intro pins s σ H x y v u Q I rx ry h
  obtain ⟨a, b, la, rfl, rfl, ea, eb, q⟩ := h
  obtain rfl : v = Value.ref a := rx
  obtain rfl : u = Value.ref b := ry
  obtain ⟨_, ya, va, ra, da⟩ := dk_rd I.hok ea
  obtain ⟨_, yb, vb, rb, db⟩ := dk_rd I.hok eb
  have hb : vb = [] := by cases rb; rfl
  subst hb
  refine PySem.W.keq_eq (knd := mixKind X.prog X.w) (r := true) ya yb da db hu (fun hl => ?_) (fin_bl I q ?_)
  · have : va = [] := by simpa using hl
    subst this
    exact .nil
  · have := ra.length
    cases la <;> cases va <;> simp_all
def gEqE (S : Store) (x y : D) : Option D := match dctOf S x, y with
  | some ks, .dct [] => some (.bl ks.isEmpty)
  | _, _ => gEq S x y
theorem opd_eqE {T : List (Addr × Str)} {K : PySem.W.Frag} : OpD K T (fun x y H Q => rEqE x y H Q ∨ rEqAll K x y H Q) gEqE := by
  intro m G S H x y v u d Q sr rx ry h p
  unfold gEqE at h
  split at h
  · rename_i ks e1
    cases h
    obtain ⟨a, la, rfl, h1, r1⟩ := dct_at sr rx e1
    obtain ⟨b, lb, rfl, h2, r2⟩ := dct_at (kvs := []) sr ry rfl
    cases r2
    have e : la.isEmpty = ks.isEmpty := by
      have := r1.length
      cases la <;> cases ks <;> simp_all
    exact .inl ⟨a, b, la, rfl, rfl, h1, h2, by rw [e]; exact p.same sr (.bl _)⟩
  · exact .inr (opd_eq m G S H _ _ _ _ _ Q sr rx ry h p)
section
variable {X : Cx} {T : List (Addr × Str)} {W : WX} {a b : Expr} {f1 f2 : Ex} {pos : Pos}
theorem de_eqE (hu : X.A.units + 64 < cLine) (ha : DE X T W a f1) (hb : DE X T W b f2) : DE X T W (.Compare a [.Eq] [b] pos) (ex2 gEqE f1 f2) := de_cmp (OpR.or (op_eqE (by omega)) (op_eqAll hu)) opd_eqE ha hb (nomark _)
theorem dt_eqE (hu : X.A.units + 64 < cLine) (ha : DE X T W a f1) (hb : DE X T W b f2) : DT X T W (.Compare a [.Eq] [b] pos) (tx (ex2 gEqE f1 f2)) := dt_cmp (OpR.or (op_eqE (by omega)) (op_eqAll hu)) opd_eqE ha hb (nomark _)
end
end DL

/-! DL30: enumerate(text). -/
namespace DL
open PySem PySem.Spec L2 DL.Lib
/-- the signs of a text, each in a new pair -/
def ItS (x : Str) : It :=
  ⟨fun i _ => i < x.cps.size, fun i H v H' => ∃ T c, v = .ref T ∧ H T = none ∧ H' = upd H T (.tup [.int (i : Nat), .str ⟨#[c]⟩]) ∧ x.cps[i]? = some c, fun i _ => i = x.cps.size⟩
open PyProof.Rows in
theorem turn_enumS {P : Program} {w : World} {K : PySem.W.Frag} {elts : List Expr} {kk : Nat} {tpos : Pos} (x : Str) (t : Tok) (e it : Addr) (hne : e ≠ it) :
    Turn P w K (.Tuple elts kk tpos) (ItS x) [e, it] e (fun i h => (∃ old, IsEnum h e it ((i : Nat) : Int) old) ∧ h.IsStrIter it (strIterType x) x t i) where
  mem := by simp
  obj := fun i h st b hb => by
    obtain ⟨⟨old, he⟩, ⟨o, ho, hc, hd⟩⟩ := st
    have e' : b = e ∨ b = it := by simpa using hb
    rcases e' with z | z
    · rw [z]; exact ⟨_, he, fun v q => nomatch q⟩
    · rw [z]; exact ⟨o, ho, fun v q => by rw [hd] at q; cases q⟩
  keep := fun i h h' st k => let ⟨⟨old, he⟩, ⟨o, ho, r⟩⟩ := st; ⟨⟨old, k e (by simp) _ he⟩, ⟨o, k it (by simp) o ho, r⟩⟩
  item := by
    intro X hP hw hK hc i pins s σ H E I hf st hg
    subst hP hw hK
    have D := Draws.text (prog := X.prog) (w := X.w) (A := X.A.in1) (by exact I.ok.hd hc) it x t
    have W := WalksT.enumerateD (A := X.A) D e hne (by simpa using hne) (by simp)
    refine W.item i s _ _ hg st fun T vals h' tk hv hT htup hmid hk => ?_
    obtain ⟨t1, v, ⟨c, u, hcx, rfl⟩, rfl⟩ := hv
    refine ⟨_, rfl, W.go elts kk tpos i T { s with heap := h', toks := tk } _ _ hmid fun h'' st'' hk2 => ?_⟩
    have hap := W.apart i T h' hmid
    have hT2 : h''.IsTuple T #[.int i t1, .str ⟨#[c]⟩ u] := by
      obtain ⟨o, ho, r⟩ := htup
      exact ⟨o, hk2 T o hap ho, r⟩
    have new : ObjOk X.prog X.w (upd H T (.tup [.int (i : Nat), .str ⟨#[c]⟩])) h'' T (.tup [.int (i : Nat), .str ⟨#[c]⟩]) :=
      ⟨by show 2 ≤ sizeLine; decide, [.int i t1, .str ⟨#[c]⟩ u], .cons ⟨_, rfl⟩ (.cons ⟨_, rfl⟩ .nil), hT2⟩
    have I1 : Inv X pins σ (upd H T (.tup [.int (i : Nat), .str ⟨#[c]⟩])) { s with heap := h'', toks := tk } :=
      I.turnedNew (ch := [e, it]) (fun b ob hb q => hk2 b ob hb (hk b ob hb q)) hf hT new
    refine ⟨.ref T, _, I1, rfl, ⟨T, c, rfl, I.hok.fresh hT, rfl, hcx⟩, st'', fun b hb => ?_⟩
    have hb' : b ≠ T := fun z => hap (z ▸ hb)
    rw [upd_ne hb']
    exact (hf b hb).1
  done := by
    intro X hP hw hK hc i pins s σ H E I hf st hg
    subst hP hw hK
    obtain ⟨⟨old, he⟩, hs⟩ := st
    have hi : i = x.cps.size := hg
    subst hi
    have D := Draws.text (prog := X.prog) (w := X.w) (A := X.A.in1) (by exact I.ok.hd hc) it x t
    obtain ⟨f0, f1, f2, f3, f4, f5⟩ := hf it (by simp)
    exact wpAny_pyNext_enum_endD D he hs fun h' eb => ⟨rfl, I.turned (t' := s.toks) (fun b o hb q => eb b o hb q) f0 f1 f3 f4 f5⟩
  self := fun A i s Q E st h => let ⟨⟨_, he⟩, _⟩ := st; wpAny_pyIter_enum he h
def iEnumS (ta : TA) : TI := fun σ H R => ta σ H fun vs H1 => ∃ x, vs = [.str x] ∧ R (ItS x) H1
open PyProof.Rows in
theorem pi_enumS {X : Cx} {e : Expr} {ta : TA} {p pos tpos : Pos} {elts : List Expr} {kk : Nat} (hg : Gl X "enumerate") (hm : X.mg "enumerate" = none) (ha : PA X [e] ta) (hs : starEach [e] X.env = [(false, eval e X.env)] := by rfl) :
    PI X (.Tuple elts kk tpos) (.Call (.Name "enumerate" p) [e] [] pos) (iEnumS ta) := by
  refine ⟨fun pins s σ H R I h => ?_⟩
  refine Call_ (ld_blt I hg hm boot_enumerate (PyProof.Rows.callWith_type1 (thn (ha.run pos pins s σ H _ I h) fun us s1 ⟨vs, H1, I1, r1, q1⟩ => ?_) hs rfl))
  obtain ⟨x, ex, q⟩ := q1
  subst ex
  cases r1 with
  | cons r rr =>
    cases rr
    obtain ⟨t, rfl⟩ := r
    refine call_enumerate_str fun h' he hit hsz hk => wpAny_pyIter_enum he ?_
    have I2 : Inv X pins σ H1 { s1 with heap := h' } := I1.kept (t' := s1.toks) hk
    refine ⟨s1.heap.objs.size + 1, [s1.heap.objs.size + 1, s1.heap.objs.size], _, _, H1, rfl, I2, turn_enumS x t (s1.heap.objs.size + 1) s1.heap.objs.size (Nat.succ_ne_self _), ⟨⟨.none, he⟩, hit⟩, fun b hb => ?_, q⟩
    have e' : b = s1.heap.objs.size + 1 ∨ b = s1.heap.objs.size := by simpa using hb
    have hle : s1.heap.objs.size ≤ b := by
      rcases e' with z | z
      · rw [z]; exact Nat.le_add_right _ _
      · rw [z]; exact Nat.le_refl _
    exact I1.fpOk hle (I1.hok.fresh hle)
/-- enumerate of a list or a text -/
def itemsE (S : Store) (x : D) : Option (List D) := match x with
  | .str z => some ((countD z.cps.toList.length).zip (z.cps.toList.map fun c => .str ⟨#[c]⟩) |>.map fun p => .tup [p.1, p.2])
  | x => (lstF S x).map fun ds => ((countD ds.length).zip ds).map fun p => .tup [p.1, p.2]
def ixEU (g : Ax) : Ix := fun ρ S => (g ρ S).bind fun r => match r.1 with
  | [x] => match itemsE r.2 x with
    | some ds => .ok ((ds, none), r.2)
    | none => .stuck
  | _ => .stuck
section
variable {X : Cx} {T : List (Addr × Str)} {W : WX} {a : Expr} {pos : Pos}
theorem yields_enumS {K : PySem.W.Frag} {m0 : List Addr} {G0 : Hp} (z : Str) : Yields K T (ItS z) m0 G0 ((countD z.cps.toList.length).zip (z.cps.toList.map fun c => .str ⟨#[c]⟩) |>.map fun p => .tup [p.1, p.2]) none := by
  have hl : ((countD z.cps.toList.length).zip (z.cps.toList.map fun c => D.str ⟨#[c]⟩)).length = z.cps.size := by simp [countD]
  refine yields_pairs ?_ ?_ ?_
  · intro i m G S H l sr hi
    rw [hl] at hi
    exact hi
  · intro m G S H l sr
    exact hl
  · intro i d e m G S H v H' l sr ed ee y
    obtain ⟨p, c, e1, e2, e3, hc⟩ := y
    rw [countD_get ed]
    rw [List.getElem?_map, Array.getElem?_toList, hc] at ee
    cases ee
    exact ⟨p, .int (i : Nat), .str ⟨#[c]⟩, e1, e2, e3, .int _, .str _⟩
theorem di_enumU {p tpos : Pos} {elts : List Expr} {kk : Nat} {g : Ax} (hg : Gl X "enumerate") (hm : X.mg "enumerate" = none) (ha : DA X T W [a] g) (hs : starEach [a] X.env = [(false, eval a X.env)] := by rfl) :
    DI X T W (.Tuple elts kk tpos) (.Call (.Name "enumerate" p) [a] [] pos) (ixEU g) := by
  refine ⟨PI.imp (PI.or (pi_enumS hg hm ha.pa hs) (di_enum (T := T) (W := W) hg hm ha hs).pi) fun σ H R ⟨ρ, m, G, S, hh, h⟩ => ?_⟩
  unfold ixEU at h
  by_cases hx : ∃ z S1, g ρ S = .ok ([.str z], S1)
  · left
    obtain ⟨z, S1, e⟩ := hx
    refine ⟨ρ, m, G, S, hh, ?_⟩
    rw [e] at h ⊢
    have h : ∀ m' G' H' J, Stp m G H m' G' H' → Sr X.K T m' G' S1 H' → ckB none S1 = true → Yields X.K T J m' G' _ none → R J H' := h
    intro vs m1 G1 H1 st sr rs
    obtain ⟨v, rfl, r1⟩ := RpL.one rs
    cases r1
    exact ⟨z, rfl, h m1 G1 H1 _ st sr rfl (yields_enumS z)⟩
  · right
    refine ⟨ρ, m, G, S, hh, ?_⟩
    unfold ixE
    cases e : g ρ S with
    | stuck => rw [e] at h; exact h.elim
    | exc c S1 => rw [e] at h; exact h
    | ok r =>
      obtain ⟨ds, S1⟩ := r
      rw [e] at h
      have hn : ∀ z, ds ≠ [.str z] := fun z q => hx ⟨z, S1, by rw [e, q]⟩
      match ds, hn, h with
      | [], _, h => exact h.elim
      | _ :: _ :: _, _, h => exact h.elim
      | [x], hn, h =>
        have key : ∀ o : Option (List D), itemsE S1 x = o.map (fun ds => ((countD ds.length).zip ds).map fun p => .tup [p.1, p.2]) → lstF S1 x = o → Wants ((Res.ok (([x] : List D), S1)).bind fun r => match r.1 with
            | [x] => match lstF r.2 x with
              | some ds => Res.ok ((((countD ds.length).zip ds).map (fun p => D.tup [p.1, p.2]), none), r.2)
              | none => .stuck
            | _ => .stuck) (fun r => ∀ m' G' H' J, Stp m G H m' G' H' → Sr X.K T m' G' r.2 H' → ckB r.1.2 r.2 = true → Yields X.K T J m' G' r.1.1 r.1.2 → R J H') (PostX X.K T W σ m G H) := by
          intro o e1 e2
          show Wants (match lstF S1 x with
              | some ds => Res.ok ((((countD ds.length).zip ds).map (fun p => D.tup [p.1, p.2]), none), S1)
              | none => .stuck) _ _
          have h2 : Wants (match itemsE S1 x with
              | some ds => Res.ok ((ds, none), S1)
              | none => .stuck) _ _ := h
          rw [e2]
          rw [e1] at h2
          cases o with
          | none => exact h2
          | some ds => exact h2
        cases x with
        | str z => exact absurd rfl (hn z)
        | _ => exact key _ rfl rfl
end
end DL

/-! DL31: == of lists whatever they are. -/
namespace DL
open PySem PySem.Spec L2
/-- data that can be laid as it stands -/
structure PlainP {α : Type} (P : α → Prop) (f : α → D) (h : α → PyData) : Prop where
  to : ∀ x, toP (f x) = some (h x)
  lay : ∀ x, P x → (h x).canLay0 = true
  dep : ∀ x, (h x).depth ≤ 60
abbrev Plain1 {α : Type} (f : α → D) (h : α → PyData) : Prop := PlainP (fun _ => True) f h
section
variable {α : Type} {P : α → Prop} {f : α → D} {h : α → PyData} {S : Store}
theorem PlainP.shaped (p : PlainP P f h) (xs : List α) (o : ∀ a ∈ xs, P a) : SeqAt.shaped (.list (xs.map h)) = true := shaped_list fun q hq => by
  obtain ⟨x, hx, rfl⟩ := List.mem_map.mp hq
  exact ⟨p.lay x (o x hx), p.dep x⟩
theorem toP_lst (p : PlainP P f h) {x : D} {xs : List α} (hx : lstOf S x = some (xs.map f)) : toP (deref S x) = some (.list (xs.map h)) := by
  cases x with
  | lst ds =>
    simp only [lstOf, Option.some.injEq] at hx
    subst hx
    simp only [deref, toP, toPs_of p.to, Option.map_some]
  | frz ds =>
    simp only [lstOf, Option.some.injEq] at hx
    subst hx
    simp only [deref, toP, toPs_of p.to, Option.map_some]
  | loc n =>
    have hx : cellL S[n]? = some (xs.map f) := hx
    have hc := cellL_some hx
    show toP (derefC n S[n]?) = _
    rw [hc]
    simp only [derefC, toP, toPs_of p.to, Option.map_some]
  | _ => cases hx
theorem lst_eqF {x y : D} {ds es : List D} (hx : lstOf S x = some ds) (hy : lstOf S y = some es) : eqF x y = none ∧ dctOf S x = none := by
  cases x with
  | lst _ => exact ⟨by cases y <;> rfl, rfl⟩
  | frz _ => exact ⟨by cases y <;> rfl, rfl⟩
  | loc n =>
    refine ⟨by cases y <;> rfl, ?_⟩
    have hx : cellL S[n]? = some ds := hx
    show cellK S[n]? = none
    rw [cellL_some hx]
    rfl
  | _ => cases hx
theorem eqG_lst (p : PlainP P f h) {x y : D} {xs ys : List α} (hx : lstOf S x = some (xs.map f)) (hy : lstOf S y = some (ys.map f)) (ox : ∀ a ∈ xs, P a) (oy : ∀ a ∈ ys, P a) : eqG S x y = some (PyData.eqv (.list (xs.map h)) (.list (ys.map h))) := by
  obtain ⟨e1, e2⟩ := lst_eqF hx hy
  unfold eqG
  rw [e1]
  dsimp only
  rw [e2]
  dsimp only
  rw [toP_lst p hx, toP_lst p hy]
  dsimp only
  rw [p.shaped xs ox, p.shaped ys oy]
  rfl
theorem ne_nilG (p : PlainP P f h) {x : D} {xs : List α} (hx : lstOf S x = some (xs.map f)) (ox : ∀ a ∈ xs, P a := by exact fun _ _ => trivial) : gNe S x (.lst []) = some (.bl (!xs.isEmpty)) := by
  unfold gNe
  rw [eqG_lst p hx (ys := []) rfl ox (fun _ z => by cases z)]
  have : PyData.eqv (.list (xs.map h)) (.list []) = xs.isEmpty := by cases xs <;> simp [PyData.eqv, PyData.eqvAll]
  rw [show (([] : List α).map h) = [] from rfl, this]
  rfl
theorem eq_nilG (p : PlainP P f h) {x : D} {xs : List α} (hx : lstOf S x = some (xs.map f)) (ox : ∀ a ∈ xs, P a := by exact fun _ _ => trivial) : gEq S x (.lst []) = some (.bl xs.isEmpty) := by
  unfold gEq
  rw [eqG_lst p hx (ys := []) rfl ox (fun _ z => by cases z)]
  have : PyData.eqv (.list (xs.map h)) (.list []) = xs.isEmpty := by cases xs <;> simp [PyData.eqv, PyData.eqvAll]
  rw [show (([] : List α).map h) = [] from rfl, this]
  rfl
theorem eq_same (p : PlainP P f h) {x y : D} {xs : List α} (hx : lstOf S x = some (xs.map f)) (hy : lstOf S y = some (xs.map f)) (ox : ∀ a ∈ xs, P a := by exact fun _ _ => trivial) : gEq S x y = some (.bl true) := gEq_refl (toP_lst p hx) (toP_lst p hy) (p.shaped xs ox)
theorem ne_same (p : PlainP P f h) {x y : D} {xs : List α} (hx : lstOf S x = some (xs.map f)) (hy : lstOf S y = some (xs.map f)) (ox : ∀ a ∈ xs, P a := by exact fun _ _ => trivial) : gNe S x y = some (.bl false) := gNe_refl (toP_lst p hx) (toP_lst p hy) (p.shaped xs ox)
/-- told apart by eqv -/
theorem eqvAll_map (e : ∀ a b : α, PyData.eqv (h a) (h b) = true ↔ a = b) : ∀ xs ys : List α, PyData.eqvAll (xs.map h) (ys.map h) = true ↔ xs = ys
  | [], [] => by simp [PyData.eqvAll]
  | [], y :: ys => by simp [PyData.eqvAll]
  | x :: xs, [] => by simp [PyData.eqvAll]
  | x :: xs, y :: ys => by
    have ih := eqvAll_map e xs ys
    simp only [List.map_cons, PyData.eqvAll, Bool.and_eq_true, List.cons.injEq, ih, e]
theorem eq_lists [DecidableEq α] (p : PlainP P f h) (e : ∀ a b : α, PyData.eqv (h a) (h b) = true ↔ a = b) {x y : D} {xs ys : List α} (hx : lstOf S x = some (xs.map f)) (hy : lstOf S y = some (ys.map f)) (ox : ∀ a ∈ xs, P a := by exact fun _ _ => trivial) (oy : ∀ a ∈ ys, P a := by exact fun _ _ => trivial) : gEq S x y = some (.bl (decide (xs = ys))) := by
  unfold gEq
  rw [eqG_lst p hx hy ox oy]
  have := eqvAll_map e xs ys
  by_cases hh : xs = ys
  · rw [decide_eq_true hh, show PyData.eqv (.list (xs.map h)) (.list (ys.map h)) = true by simp only [PyData.eqv]; exact this.mpr hh]
    rfl
  · rw [decide_eq_false hh, show PyData.eqv (.list (xs.map h)) (.list (ys.map h)) = false by simp only [PyData.eqv]; exact Bool.eq_false_iff.mpr fun z => hh (this.mp z)]
    rfl
theorem ne_lists [DecidableEq α] (p : PlainP P f h) (e : ∀ a b : α, PyData.eqv (h a) (h b) = true ↔ a = b) {x y : D} {xs ys : List α} (hx : lstOf S x = some (xs.map f)) (hy : lstOf S y = some (ys.map f)) (ox : ∀ a ∈ xs, P a := by exact fun _ _ => trivial) (oy : ∀ a ∈ ys, P a := by exact fun _ _ => trivial) : gNe S x y = some (.bl (!decide (xs = ys))) := by
  have := eq_lists p e hx hy ox oy
  unfold gEq at this
  unfold gNe
  cases q : eqG S x y with
  | none => rw [q] at this; cases this
  | some b => rw [q] at this; simp at this; simp [this]
end
/-- pairs of a truth and a number -/
def bzD (p : Bool × Int) : D := .tup [.bl p.1, .int p.2]
def bzP (p : Bool × Int) : PyData := .tuple [.bool p.1, .int p.2]
theorem pl_bz : Plain1 bzD bzP := ⟨fun _ => rfl, fun p _ => by simp [bzP, PyData.canLay0, PyData.canLayAll0], fun p => by simp [bzP, PyData.depth, PyData.depthAll]⟩
theorem pl_bl : Plain1 D.bl PyData.bool := ⟨fun _ => rfl, fun p _ => by simp [PyData.canLay0], fun p => by simp [PyData.depth]⟩
theorem pl_int : Plain1 D.int PyData.int := ⟨fun _ => rfl, fun p _ => by simp [PyData.canLay0], fun p => by simp [PyData.depth]⟩
theorem pl_str : PlainP (fun z => PyData.strOk z = true) D.str PyData.str := ⟨fun _ => rfl, fun p hp => by simpa [PyData.canLay0] using hp, fun p => by simp [PyData.depth]⟩
theorem pl_nat : Plain1 natD fun n : Nat => PyData.int (n : Int) := ⟨fun _ => rfl, fun p _ => by simp [PyData.canLay0], fun p => by simp [PyData.depth]⟩
theorem pl_tD : PlainP (fun l => PyData.strOk (txt l) = true) tD fun l => PyData.str (txt l) := ⟨fun _ => rfl, fun p hp => by simpa [PyData.canLay0] using hp, fun p => by simp [PyData.depth]⟩
theorem ev_bl (a b : Bool) : PyData.eqv (.bool a) (.bool b) = true ↔ a = b := by cases a <;> cases b <;> simp [PyData.eqv]
theorem ev_int (a b : Int) : PyData.eqv (.int a) (.int b) = true ↔ a = b := by simp [PyData.eqv]
theorem ev_str (a b : Str) : PyData.eqv (.str a) (.str b) = true ↔ a = b := by simp [PyData.eqv]
theorem ev_tD (a b : List Nat) : PyData.eqv (.str (txt a)) (.str (txt b)) = true ↔ a = b := by rw [ev_str]; exact ⟨txt_inj, fun h => by rw [h]⟩
theorem ev_bz (a b : Bool × Int) : PyData.eqv (bzP a) (bzP b) = true ↔ a = b := by
  obtain ⟨a1, a2⟩ := a
  obtain ⟨b1, b2⟩ := b
  cases a1 <;> cases b1 <;> simp [bzP, PyData.eqv, PyData.eqvAll]
end DL
namespace DL
open PySem PySem.Spec L2
theorem intsOf_ints : ∀ ns : List Int, intsOf (ns.map .int) = some ns
  | [] => rfl
  | n :: ns => by
    show (intsOf (ns.map .int)).map (n :: ·) = _
    rw [intsOf_ints ns]
    rfl
theorem g_sumI {S : Store} (ns : List Int) : gSum S [.lst (ns.map .int)] = some (.int ns.sum) := by
  unfold gSum lstOf
  simp only [Option.bind_some, intsOf_ints, Option.map_some]
theorem g_any {S : Store} (bs : List Bool) : gAny S [.lst (bs.map .bl)] = some (.bl (bs.any id)) := by
  unfold gAny lstOf
  simp only [Option.bind_some, blsOf_map, Option.map_some]
end DL
namespace DL
open PySem PySem.Spec L2
theorem ix_loc {S : Store} {n : Nat} {ds : List D} {i : Int} (hn : S[n]? = some (.lst ds)) : gIx S (.loc n) (.int i) = atI ds i := by
  have h1 : dctOf S (.loc n) = none := by
    show cellK S[n]? = none
    rw [hn]
    rfl
  have h2 : seqOf S (.loc n) = some ds := by
    unfold seqOf
    show lstOf S (.loc n) = some ds
    show cellL S[n]? = some ds
    rw [hn]
    rfl
  unfold gIx
  simp only [h1, h2, Option.bind_some]
theorem ix_locN {S : Store} {n : Nat} {ds : List D} {i : Nat} (hn : S[n]? = some (.lst ds)) (hi : i < ds.length) : gIx S (.loc n) (.int (i : Int)) = some ds[i] := by
  rw [ix_loc hn, at_nat hi, List.getElem?_eq_getElem hi]
end DL

/-! DL32: enumerate and zip of lists that may change; lists, data or a cell. -/
namespace DL
open PySem PySem.Spec L2 DL.Lib
theorem yields_pairsC {T : List (Addr × Str)} {K : PySem.W.Frag} {m0 : List Addr} {G0 : Hp} {J : It} {ds es : List D} {ck : Option (Nat × List D)}
    (go : ∀ (i : Nat) (m : List Addr) (G : Hp) (S : Store) (H : Hp), Later m0 G0 m G → Sr K T m G S H → ckB ck S = true → i < (ds.zip es).length → J.go i H)
    (stop : ∀ (m : List Addr) (G : Hp) (S : Store) (H : Hp), Later m0 G0 m G → Sr K T m G S H → ckB ck S = true → J.stop (ds.zip es).length H)
    (yld : ∀ (i : Nat) (d e : D) (m : List Addr) (G : Hp) (S : Store) (H : Hp) (v : V) (H' : Hp), Later m0 G0 m G → Sr K T m G S H → ckB ck S = true → ds[i]? = some d → es[i]? = some e → J.yld i H v H' → ∃ p x y, v = .ref p ∧ H p = none ∧ H' = upd H p (.tup [x, y]) ∧ Rp K m G x d ∧ Rp K m G y e) :
    Yields K T J m0 G0 ((ds.zip es).map fun p => .tup [p.1, p.2]) ck where
  go := fun i m G S H l sr c hi => go i m G S H l sr c (by simpa using hi)
  stop := fun m G S H l sr c => by
    rw [List.length_map]
    exact stop m G S H l sr c
  yld := fun i d m G S H x H' l sr c e y => by
    rw [List.getElem?_map] at e
    cases e1 : (ds.zip es)[i]? with
    | none => rw [e1] at e; cases e
    | some p =>
      rw [e1] at e; cases e
      obtain ⟨d, e⟩ := p
      have hz := List.getElem?_zip_eq_some.mp e1
      obtain ⟨p, x', y', rfl, np, rfl, r1, r2⟩ := yld i d e m G S H x H' l sr c hz.1 hz.2 y
      exact ⟨_, Stp.alloc sr np, sr.alloc np (fun _ z => by cases z), .tup (.of upd_same) (.cons (r1.mono (Stp.alloc (o := .tup [x', y']) sr np)) (.cons (r2.mono (Stp.alloc (o := .tup [x', y']) sr np)) .nil))⟩
/-- a list, and what must stay of it -/
def srcD (S : Store) : D → Option (List D × Option (Nat × List D))
  | .lst ds => some (ds, none)
  | .frz ds => some (ds, none)
  | .loc n => (cellL S[n]?).map fun ds => (ds, some (n, ds))
  | _ => none
theorem srcD_at {T : List (Addr × Str)} {K : PySem.W.Frag} {m0 : List Addr} {G0 : Hp} {S0 : Store} {v : V} {x : D} {ds : List D} {ck : Option (Nat × List D)} (r : Rp K m0 G0 v x) (h : srcD S0 x = some (ds, ck)) :
    ckB ck S0 = true ∧ ∃ a, v = .ref a ∧ ∀ (m : List Addr) (G : Hp) (S : Store) (H : Hp), Later m0 G0 m G → Sr K T m G S H → ckB ck S = true → ∃ xs, SqL K H a xs ∧ RpL K m G xs ds := by
  cases r with
  | lst h1 h2 => cases h; exact ⟨rfl, _, rfl, fun m G S H l sr _ => ⟨_, .of (sr.fits _ _ (l.ge _ _ h1)), l.rpL h2⟩⟩
  | frz h1 h2 => cases h; exact ⟨rfl, _, rfl, fun m G S H l sr _ => ⟨_, sqL_up sr.fits (sqL_mono l.rd h1), l.rpL h2⟩⟩
  | loc h1 =>
    rename_i a n
    have h : (cellL S0[n]?).map (fun ds => (ds, some (n, ds))) = some (ds, ck) := h
    cases e1 : cellL S0[n]? with
    | none => rw [e1] at h; cases h
    | some es =>
      rw [e1] at h
      cases h
      refine ⟨?_, a, rfl, fun m G S H l sr c => ?_⟩
      · show (match S0[n]? with | some (.lst fs) => D.beqs fs ds | _ => false) = true
        rw [cellL_some e1]
        exact D.beqs_refl ds
      · obtain ⟨xs, q1, q2⟩ := sr.cell n _ a (ckB_some c) (l.pre n a h1)
        exact ⟨xs, .of q1, q2⟩
  | _ => cases h
def ixZV (g : Ax) : Ix := fun ρ S => (g ρ S).bind fun r => match r.1 with
  | [x, y] => match srcD r.2 x, srcD r.2 y with
    | some (ds, c1), some (es, none) => .ok (((ds.zip es).map (fun p => .tup [p.1, p.2]), c1), r.2)
    | some (ds, none), some (es, c2) => .ok (((ds.zip es).map (fun p => .tup [p.1, p.2]), c2), r.2)
    | _, _ => .stuck
  | _ => .stuck
def itemsV (S : Store) (x : D) : Option (List D × Option (Nat × List D)) := match x with
  | .str z => some (((countD z.cps.toList.length).zip (z.cps.toList.map fun c => .str ⟨#[c]⟩) |>.map fun p => .tup [p.1, p.2]), none)
  | x => (srcD S x).map fun p => (((countD p.1.length).zip p.1).map (fun p => .tup [p.1, p.2]), p.2)
def ixEV (g : Ax) : Ix := fun ρ S => (g ρ S).bind fun r => match r.1 with
  | [x] => match itemsV r.2 x with
    | some p => .ok (p, r.2)
    | none => .stuck
  | _ => .stuck
section
variable {X : Cx} {T : List (Addr × Str)} {W : WX} {a b : Expr} {pos : Pos}
theorem zip_run {K : PySem.W.Frag} {R : It → Hp → Prop} {m1 : List Addr} {G1 H1 : Hp} {S1 : Store} {v u : V} {x y : D} {xs ys : List D} {c1 c2 ck : Option (Nat × List D)} (sr : Sr K T m1 G1 S1 H1) (r1 : Rp K m1 G1 v x) (r2 : Rp K m1 G1 u y) (e1 : srcD S1 x = some (xs, c1)) (e2 : srcD S1 y = some (ys, c2))
    (hc : ∀ S, ckB ck S = true → ckB c1 S = true ∧ ckB c2 S = true) (hck : ckB c1 S1 = true → ckB c2 S1 = true → ckB ck S1 = true)
    (hr : ∀ J, ckB ck S1 = true → Yields K T J m1 G1 ((xs.zip ys).map fun p => .tup [p.1, p.2]) ck → R J H1) : ∃ a1 a2 us ws, [v, u] = [V.ref a1, V.ref a2] ∧ SqL K H1 a1 us ∧ SqL K H1 a2 ws ∧ R (Itz K a1 a2) H1 := by
  obtain ⟨k1, a1, rfl, f1⟩ := srcD_at (T := T) r1 e1
  obtain ⟨k2, a2, rfl, f2⟩ := srcD_at (T := T) r2 e2
  obtain ⟨us, u1, _⟩ := f1 _ _ _ _ .refl sr k1
  obtain ⟨ws, w1, _⟩ := f2 _ _ _ _ .refl sr k2
  refine ⟨a1, a2, us, ws, rfl, u1, w1, hr _ (hck k1 k2) (yields_pairsC ?_ ?_ ?_)⟩
  · intro i m G S H l sr c hi
    obtain ⟨c1', c2'⟩ := hc S c
    obtain ⟨us, u1, u2⟩ := f1 _ _ _ _ l sr c1'
    obtain ⟨ws, w1, w2⟩ := f2 _ _ _ _ l sr c2'
    rw [List.length_zip] at hi
    have h1 : i < us.length := by rw [u2.length]; omega
    have h2 : i < ws.length := by rw [w2.length]; omega
    exact ⟨us, ws, us[i], ws[i], u1, w1, by simp [h1], by simp [h2]⟩
  · intro m G S H l sr c
    obtain ⟨c1', c2'⟩ := hc S c
    obtain ⟨us, u1, u2⟩ := f1 _ _ _ _ l sr c1'
    obtain ⟨ws, w1, w2⟩ := f2 _ _ _ _ l sr c2'
    refine ⟨us, ws, u1, w1, ?_⟩
    rw [List.length_zip, u2.length, w2.length]
    omega
  · intro i d e m G S H v H' l sr c ed ee y
    obtain ⟨c1', c2'⟩ := hc S c
    obtain ⟨us, u1, u2⟩ := f1 _ _ _ _ l sr c1'
    obtain ⟨ws, w1, w2⟩ := f2 _ _ _ _ l sr c2'
    obtain ⟨p, x, z, e1, e2, e3, q1, q2⟩ := y
    have g1 := q1 us u1
    have g2 := q2 ws w1
    obtain ⟨v1, w3, w4⟩ := u2.get ed
    obtain ⟨v2, w5, w6⟩ := w2.get ee
    rw [g1] at w3; cases w3
    rw [g2] at w5; cases w5
    exact ⟨p, x, z, e1, e2, e3, w4, w6⟩
theorem di_zipV {p tpos : Pos} {elts : List Expr} {kk : Nat} {g : Ax} (hg : Gl X "zip") (hm : X.mg "zip" = none) (ha : DA X T W [a, b] g) (hs : starEach [a, b] X.env = (false, eval a X.env) :: starEach [b] X.env := by rfl) (hpl : (backTo pos (starEach [b] X.env)).any (·.1) = false := by rfl) :
    DI X T W (.Tuple elts kk tpos) (.Call (.Name "zip" p) [a, b] [] pos) (ixZV g) := by
  refine ⟨PI.imp (pi_zip hg hm ha.pa hs hpl) fun σ H R ⟨ρ, m, G, S, hh, h⟩ => ?_⟩
  refine ⟨ρ, m, G, S, hh, (Wants.bind h).imp (fun r hr vs m1 G1 H1 st sr rs => ?_) fun _ _ q => q⟩
  obtain ⟨ds, S1⟩ := r
  dsimp only at hr sr rs
  split at hr
  · rename_i x y
    obtain ⟨v, u, rfl, r1, r2⟩ := rs.two
    split at hr
    · rename_i xs c1 ys e1 e2
      exact zip_run (ck := c1) sr r1 r2 e1 e2 (fun S c => ⟨c, rfl⟩) (fun c _ => c) fun J c y => hr m1 G1 H1 J st sr c y
    · rename_i xs ys c2 _ e1 e2
      exact zip_run (ck := c2) sr r1 r2 e1 e2 (fun S c => ⟨rfl, c⟩) (fun _ c => c) fun J c y => hr m1 G1 H1 J st sr c y
    · exact hr.elim
  · exact hr.elim
theorem di_enumV {p tpos : Pos} {elts : List Expr} {kk : Nat} {g : Ax} (hg : Gl X "enumerate") (hm : X.mg "enumerate" = none) (ha : DA X T W [a] g) (hs : starEach [a] X.env = [(false, eval a X.env)] := by rfl) :
    DI X T W (.Tuple elts kk tpos) (.Call (.Name "enumerate" p) [a] [] pos) (ixEV g) := by
  refine ⟨PI.imp (PI.or (pi_enumS hg hm ha.pa hs) (pi_enum hg hm ha.pa hs)) fun σ H R ⟨ρ, m, G, S, hh, h⟩ => ?_⟩
  unfold ixEV at h
  by_cases hx : ∃ z S1, g ρ S = .ok ([.str z], S1)
  · left
    obtain ⟨z, S1, e⟩ := hx
    refine ⟨ρ, m, G, S, hh, ?_⟩
    rw [e] at h ⊢
    have h : ∀ m' G' H' J, Stp m G H m' G' H' → Sr X.K T m' G' S1 H' → ckB none S1 = true → Yields X.K T J m' G' _ none → R J H' := h
    intro vs m1 G1 H1 st sr rs
    obtain ⟨v, rfl, r1⟩ := RpL.one rs
    cases r1
    exact ⟨z, rfl, h m1 G1 H1 _ st sr rfl (yields_enumS z)⟩
  · right
    refine ⟨ρ, m, G, S, hh, ?_⟩
    cases e : g ρ S with
    | stuck => rw [e] at h; exact h.elim
    | exc c S1 => rw [e] at h; exact h
    | ok r =>
      obtain ⟨ds, S1⟩ := r
      rw [e] at h
      have hn : ∀ z, ds ≠ [.str z] := fun z q => hx ⟨z, S1, by rw [e, q]⟩
      match ds, hn, h with
      | [], _, h => exact h.elim
      | _ :: _ :: _, _, h => exact h.elim
      | [x], hn, h =>
        have h2 : Wants (match srcD S1 x with
            | some (ds, ck) => Res.ok ((((countD ds.length).zip ds).map (fun p => D.tup [p.1, p.2]), ck), S1)
            | none => .stuck) (fun r => ∀ m' G' H' J, Stp m G H m' G' H' → Sr X.K T m' G' r.2 H' → ckB r.1.2 r.2 = true → Yields X.K T J m' G' r.1.1 r.1.2 → R J H') (PostX X.K T W σ m G H) := by
          cases x with
          | str z => exact absurd rfl (hn z)
          | lst ds => exact h
          | frz ds => exact h
          | loc n =>
            have h3 : Wants (match (srcD S1 (.loc n)).map (fun p => (((countD p.1.length).zip p.1).map (fun p => D.tup [p.1, p.2]), p.2)) with
              | some p => Res.ok (p, S1)
              | none => .stuck) _ _ := h
            cases q : srcD S1 (.loc n) with
            | none => rw [q] at h3; exact h3.elim
            | some p => rw [q] at h3; exact h3
          | _ => exact h.elim
        intro vs m1 G1 H1 st sr rs
        obtain ⟨v, rfl, r1⟩ := RpL.one rs
        cases e1 : srcD S1 x with
        | none => rw [e1] at h2; exact h2.elim
        | some q =>
          obtain ⟨xs, ck⟩ := q
          rw [e1] at h2
          obtain ⟨k1, a1, rfl, f1⟩ := srcD_at (T := T) r1 e1
          obtain ⟨us, u1, _⟩ := f1 _ _ _ _ .refl sr k1
          have hcl : (countD xs.length).length = xs.length := by simp [countD]
          refine ⟨a1, us, rfl, u1, h2 m1 G1 H1 _ st sr k1 (yields_pairsC ?_ ?_ ?_)⟩
          · intro i m G S H l sr c hi
            obtain ⟨us, u1, u2⟩ := f1 _ _ _ _ l sr c
            rw [List.length_zip, hcl] at hi
            have h1 : i < us.length := by rw [u2.length]; omega
            exact ⟨us, us[i], u1, by simp [h1]⟩
          · intro m G S H l sr c
            obtain ⟨us, u1, u2⟩ := f1 _ _ _ _ l sr c
            refine ⟨us, u1, ?_⟩
            rw [List.length_zip, hcl, u2.length]
            omega
          · intro i d e m G S H v H' l sr c ed ee y
            obtain ⟨us, u1, u2⟩ := f1 _ _ _ _ l sr c
            obtain ⟨p, x, e1, e2, e3, q1⟩ := y
            have g1 := q1 us u1
            obtain ⟨v1, w1, w2⟩ := u2.get ee
            rw [g1] at w1; cases w1
            rw [countD_get ed]
            exact ⟨p, .int (i : Nat), x, e1, e2, e3, .int _, w2⟩
end
/-! ### a list, data or a cell -/
structure LstAt (S : Store) (x : D) (ds : List D) : Prop where
  lst : lstOf S x = some ds
  lx : lstX S x = some ds
  src : ∃ ck, srcD S x = some (ds, ck) ∧ itemsOf S x = some (ds, ck) ∧ ckB ck S = true
  ty : tyD S x = some "list"
  len : gLen S [x] = some (.int (ds.length : Int))
  sl : ∀ lo hi, gSl S x lo hi = some (.lst (cutD ds lo hi))
  ix : ∀ i : Int, gIx S x (.int i) = atI ds i
theorem LstAt.data {S : Store} {ds : List D} : LstAt S (.lst ds) ds := ⟨rfl, rfl, ⟨none, rfl, rfl, rfl⟩, rfl, rfl, fun _ _ => rfl, fun _ => rfl⟩
theorem LstAt.cell {S : Store} {n : Nat} {ds : List D} (hn : S[n]? = some (.lst ds)) : LstAt S (.loc n) ds := by
  have h1 : lstOf S (.loc n) = some ds := by
    show cellL S[n]? = some ds
    rw [hn]; rfl
  refine ⟨h1, h1, ⟨some (n, ds), ?_, ?_, ?_⟩, ?_, ?_, fun lo hi => ?_, fun i => ix_loc hn⟩
  · show (cellL S[n]?).map (fun ds => (ds, some (n, ds))) = _
    rw [hn]; rfl
  · show (cellL S[n]?).map (fun ds => (ds, some (n, ds))) = _
    rw [hn]; rfl
  · show (match S[n]? with | some (.lst fs) => D.beqs fs ds | _ => false) = true
    rw [hn]
    exact D.beqs_refl ds
  · show (match S[n]? with | some (.lst _) => some "list" | some (.dct _) => some "dict" | _ => none) = _
    rw [hn]
  · unfold gLen lenD
    dsimp only
    rw [h1]
    rfl
  · show (lstOf S (.loc n)).map (fun ds => D.lst (cutD ds lo hi)) = _
    rw [h1]; rfl
theorem LstAt.end {S : Store} {ds : List D} : LstAt (S ++ [.lst ds]) (.loc S.length) ds := .cell get_end
end DL
namespace DL
open PySem PySem.Spec L2
@[simp] theorem srcD_lst {S : Store} {ds : List D} : srcD S (.lst ds) = some (ds, none) := nr rfl
theorem add_at {S : Store} {x y : D} {ds es : List D} (hx : LstAt S x ds) (hy : LstAt S y es) (hl : ds.length + es.length ≤ sizeLine) : gAdd S x y = some (.lst (ds ++ es)) := by
  have h1 := hx.lx
  have h2 := hy.lx
  have k : ∀ (o p : Option (List D)), o = some ds → p = some es → (match o, p with
    | some xs, some ys => if xs.length + ys.length ≤ sizeLine then some (D.lst (xs ++ ys)) else none
    | _, _ => none) = some (.lst (ds ++ es)) := fun o p e1 e2 => by
    subst e1 e2
    dsimp only
    rw [if_pos hl]
  unfold gAdd
  cases x <;> first | (cases h1; done) | skip
  all_goals cases y <;> first | (cases h2; done) | exact k _ _ h1 h2
end DL
namespace DL
open PySem PySem.Spec L2
theorem enum_map {α : Type} (f : α → D) (R : List α) : (((countD (R.map f).length).zip (R.map f)).map fun p => D.tup [p.1, p.2]) = ((List.range R.length).zip R).map fun q => D.tup [.int (q.1 : Int), f q.2] := by
  unfold countD
  rw [List.length_map, List.zip_map, List.map_map]
  rfl
theorem itemsV_lst {α : Type} {S : Store} (f : α → D) (R : List α) : itemsV S (.lst (R.map f)) = some (((List.range R.length).zip R).map (fun q => D.tup [.int (q.1 : Int), f q.2]), none) := by
  show some ((((countD (R.map f).length).zip (R.map f)).map fun p => D.tup [p.1, p.2]), none) = _
  rw [enum_map]
theorem map_snd_zip {α : Type} (R : List α) : ((List.range R.length).zip R).map (·.2) = R := by
  rw [List.map_snd_zip]
  simp
end DL
namespace DL
open PySem PySem.Spec L2
theorem cut_take {ds : List D} {i : Nat} (h : i ≤ ds.length) : cutD ds none (some (i : Int)) = ds.take i := by
  unfold cutD
  rw [HT.sIx_none, HT.sIx_nat, Nat.min_eq_left h]
  simp
theorem cut_drop {ds : List D} {i : Nat} : cutD ds (some (i : Int)) none = ds.drop i := by
  unfold cutD
  rw [HT.sIx_none, HT.sIx_nat]
  by_cases h : i ≤ ds.length
  · rw [Nat.min_eq_left h, List.take_of_length_le (by simp)]
  · rw [Nat.min_eq_right (by omega), List.drop_of_length_le (Nat.le_refl _), List.drop_of_length_le (by omega)]
    simp
end DL
namespace DL
@[simp] theorem lg128 : Nat.log2 128 < 9000 := by decide +kernel
@[simp] theorem lg256 : Nat.log2 256 < 9000 := by decide +kernel
@[simp] theorem lg1024 : Nat.log2 1024 < 9000 := by decide +kernel
@[simp] theorem lg1048576 : Nat.log2 1048576 < 9000 := by decide +kernel
end DL
namespace DL
open PySem PySem.Spec L2
section
variable {α : Type} (f : α → D)
/-- what enumerate tells, from a number on -/
def enD : Nat → List α → List D
  | _, [] => []
  | i, x :: r => .tup [.int (i : Int), f x] :: enD (i + 1) r
theorem enD_zip : ∀ (l : List α) (k : Nat), ((((List.range' k l.length).map fun i : Nat => D.int (i : Int)).zip (l.map f)).map fun p => D.tup [p.1, p.2]) = enD f k l
  | [], k => rfl
  | c :: r, k => by
    rw [List.length_cons, List.range'_succ, List.map_cons, List.map_cons, List.zip_cons_cons, List.map_cons, enD_zip r (k + 1)]
    rfl
theorem enD_zip0 (l : List α) : (((countD (l.map f).length).zip (l.map f)).map fun p => D.tup [p.1, p.2]) = enD f 0 l := by
  rw [← enD_zip f l 0]
  unfold countD
  rw [List.range_eq_range', List.length_map]
theorem itemsV_at {S : Store} {x : D} {l : List α} {ck : Option (Nat × List D)} (h : srcD S x = some (l.map f, ck)) : itemsV S x = some (enD f 0 l, ck) := by
  have e : ∀ x : D, (∀ z, x ≠ .str z) → itemsV S x = (srcD S x).map fun p => (((countD p.1.length).zip p.1).map (fun p => .tup [p.1, p.2]), p.2) := fun x hx => by
    cases x with
    | str z => exact absurd rfl (hx z)
    | _ => rfl
  rw [e x (fun z q => by rw [q] at h; cases h), h, Option.map_some, enD_zip0]
end
end DL
namespace DL
open PySem PySem.Spec L2
theorem seq_end {S : Store} {acc : List D} : seqOf (S ++ [.lst acc]) (.loc S.length) = some acc := by
  show lstOf (S ++ [.lst acc]) (.loc S.length) = some acc
  exact lst_end
end DL

/-! DL33: text.replace, where a token is out: behind the first number of a for's range. -/
namespace DL
open PySem PySem.Spec PyProof.Rows L2 CwR
/-! ### what gives out a token -/
def PE1 (X : Cx) (e : Expr) (t : TE) : Prop := ∀ (pins : List (Addr × Obj)) (s : Shared) (σ : L2.St) (H : Hp) (Q : VK), Inv X pins σ H s → t σ H Q → wpAny (model X.prog X.w) X.A (eval e X.env) (fun v s1 => 1 ≤ s1.toks ∧ EP X pins σ Q v s1) X.xe s
def PA1 (X : Cx) (es : List Expr) (t : TA) : Prop := ∀ (pos : Pos) (pins : List (Addr × Obj)) (s : Shared) (σ : L2.St) (H : Hp) (Q : List V → Hp → Prop), Inv X pins σ H s → t σ H Q → wpAny (model X.prog X.w) X.A (spliced (backTo pos (starEach es X.env))) (fun vs s1 => 1 ≤ s1.toks ∧ AP X pins σ Q vs s1) X.xe s
def PI1 (X : Cx) (tg iter : Expr) (wi : TI) : Prop := ∀ (pins : List (Addr × Obj)) (s : Shared) (σ : L2.St) (H : Hp) (R : It → Hp → Prop), Inv X pins σ H s → wi σ H R →
    wpAny (model X.prog X.w) X.A (eval iter X.env) (fun v s1 => 1 ≤ s1.toks ∧ wpAny (model X.prog X.w) X.A (pyIter v) (PIE X pins σ tg R) X.xe s1) X.xe s
section
variable {X : Cx} {e c : Expr} {es : List Expr} {te : TE} {ta : TA} {t u : TS} {pos : Pos}
theorem wp1 {α : Type} {M : Model} {A : Around} {m : Sem α} {Q : α → Shared → Prop} {E : Value → Shared → Prop} {s : Shared} (h1 : 1 ≤ s.toks) (h : wpAny M A m Q E s) : wpAny M A m (fun v s1 => 1 ≤ s1.toks ∧ Q v s1) E s :=
  wpAny_mono (PySem.wpAny_toks_of h1 h) (fun _ _ q => q) fun _ _ z => z.2
theorem pe1_int {i : Int} {j : Nat} : PE1 X (.Constant (.int i) j pos) (tC (.int i)) := fun _ s _ H _ I h => wpAny_Constant_int ⟨by show 1 ≤ s.toks + 1; omega, .int i, H, I.tok _, ⟨_, rfl⟩, h⟩
theorem pa1_cons (ha : PE1 X e te) (hr : PA X es ta) (hs : starEach (e :: es) X.env = (false, eval e X.env) :: starEach es X.env := by rfl) : PA1 X (e :: es) (tCons te ta) := by
  intro pos pins s σ H Q I h
  rw [hs]
  show wpAny _ _ (spliced ((false, eval e X.env) :: backTo pos (starEach es X.env))) _ _ s
  refine Calls.spliced_cons (thn (ha pins s σ H _ I h) fun u s1 ⟨h1, x, H1, I1, r1, q1⟩ => ?_)
  exact thn (wp1 h1 (hr.run pos pins s1 σ H1 _ I1 q1)) fun us s2 ⟨h2, xs, H2, I2, r2, q2⟩ => ⟨h2, x :: xs, H2, I2, .cons r1 r2, q2⟩
theorem pe1_callB {x : Str} {p : Pos} {id : String} {r : List V → Hp → VK → Prop} (hc : CallR X (.builtin id) r) (hg : Gl X x) (hm : X.mg x = none) (hv : bootBuiltins x = some (.builtin id)) (ha : PA1 X (e :: es) ta) (hn : x ≠ "__name__" := by decide) (hdb : (x == ("__debug__" : Str)) = false := by decide)
    (he : starEach (e :: es) X.env = (false, eval e X.env) :: starEach es X.env := by rfl) (hpl : (backTo pos (starEach es X.env)).any (·.1) = false := by rfl) : PE1 X (.Call (.Name x p) (e :: es) [] pos) (tCB r ta) := by
  intro pins s σ H Q I h
  refine wpAny_Call_Name_kw (ld_blt I hg hm hv ?_ hn hdb)
  exact PyProof.Rows.callWith_builtin1 (thn (ha pos pins s σ H _ I h) fun us s1 ⟨h1, vs, H1, I1, r1, q1⟩ => wp1 h1 (hc pins s1 σ H1 vs us Q I1 r1 q1)) he hpl
theorem pi1_of {tg : Expr} {wi : TI} (h : ∀ (pins : List (Addr × Obj)) (s : Shared) (σ : L2.St) (H : Hp) (R : It → Hp → Prop), Inv X pins σ H s → wi σ H R →
    wpAny (model X.prog X.w) X.A (eval e X.env) (fun v s1 => 1 ≤ s1.toks ∧ wpAny (model X.prog X.w) X.A (pyIter v) (PIE X pins σ tg R) X.xe s1) X.xe s) : PI1 X tg e wi := h
theorem pi1_range1 {tg a : Expr} {p pos : Pos} (hg : Gl X "range") (hm : X.mg "range" = none) (ha : PA1 X [a] ta) (hs : starEach [a] X.env = [(false, eval a X.env)] := by rfl) : PI1 X tg (.Call (.Name "range" p) [a] [] pos) (iRng1 ta) := by
  intro pins s σ H R I h
  refine Call_ (ld_blt I hg hm boot_range (PyProof.Rows.callWith_type1 (thn (ha pos pins s σ H _ I h) fun us s1 ⟨h1, vs, H1, I1, r1, q1⟩ => ?_) hs rfl))
  obtain ⟨j, e, q1, q2, q⟩ := q1
  subst e
  cases r1 with
  | cons r rr =>
    cases rr
    obtain ⟨t, rfl⟩ := r
    exact wp1 h1 (call_range_1 (range_it I1 (by omega) (by omega) q1 q2 (by simpa using q)))
theorem ps_forT {tg iter : Expr} {body : List Stmt} {wi : TI} {g : TG} {tb : TS} {pos : Pos} (hp : PassesOwn (model X.prog X.w) X.A X.env X.xe) (hc : X.calm = true) (hi : PI1 X tg iter wi) (hg : PG X tg g) (hb : PSsT X body tb)
    (hs : ∀ x, foldedSetIterable iter X.env x = pure x := by intro _; rfl) : PS X (.For tg iter body [] pos) (tFor wi g tb) := by
  refine ⟨fun pins s σ H D I h => ?_⟩
  refine wpAny_For (thn (hi pins s σ H _ I h) fun v s1 h1 => thn (wp1 h1.1 h1.2) fun itv s2 h2 => ?_) hs
  obtain ⟨k2, it, fp, tn, J, H2, e, I2, T, st2, f2, W, ⟨m0, w0⟩, turn⟩ := h2
  subst e
  have stat : ∀ {H' : Hp}, (∀ b ∈ fp, H' b = none) → ∀ b ∈ fp, FpOk X pins H' b := fun hn b hb => ⟨hn b hb, (f2 b hb).2⟩
  refine codeAny_forLoop_any (fun n s' => 1 ≤ s'.toks ∧ ∃ i σ' H', Inv X pins σ' H' s' ∧ tn i s'.heap ∧ (∀ b ∈ fp, H' b = none) ∧ W i n σ' H') ?_ m0 ⟨k2, 0, σ, H2, I2, st2, fun b hb => (f2 b hb).1, w0⟩
  rintro n s3 ⟨k3, i, σ3, H3, I3, st3, fr3, w3⟩
  rcases turn i n σ3 H3 w3 with ⟨stop, qn⟩ | ⟨go, N, hN, step⟩
  · refine wpAny_passesOwn hp (thn (T.done X rfl rfl rfl hc i pins s3 σ3 H3 X.xe I3 (stat fr3) st3 stop) fun r s4 ⟨hr, I4⟩ => ?_)
    subst hr
    exact wpAny_execs_nil ⟨σ3, H3, I4, qn⟩
  · refine wpAny_passesOwn hp (thn (wp1 k3 (T.item X rfl rfl rfl hc i pins s3 σ3 H3 X.xe I3 (stat fr3) st3 go)) fun r s4 ⟨k4, u, hr, h4⟩ => ?_)
    subst hr
    refine wpAny_passesOwn hp (thn (wp1 k4 h4) fun _ s5 ⟨k5, x, H5, I5, r5, y5, st5, fr5⟩ => ?_)
    have I5' := I5.pinned (stat fr5) (T.obj _ _ st5)
    refine wpAny_passesOwn hp (thn (wp1 k5 (hg.run _ s5 σ3 H5 x u _ I5' r5 (step x H5 y5))) fun _ s6 ⟨k6, σ6, H6, I6, q6⟩ => ?_)
    refine wpAny_passesOwn hp (thn (wp1 k6 (hb _ s6 σ6 H6 _ k6 I6 q6)) fun f s7 q7 => ?_)
    obtain ⟨k7, q7⟩ := q7
    have again : ∀ {σ7 : L2.St} {H7 : Hp}, Inv X (pins ++ pinsAt fp s5.heap) σ7 H7 s7 → N σ7 H7 → ∃ m, m < n ∧ (1 ≤ s7.toks ∧ ∃ i σ' H', Inv X pins σ' H' s7 ∧ tn i s7.heap ∧ (∀ b ∈ fp, H' b = none) ∧ W i m σ' H') := fun {σ7 H7} I7 n7 => by
      obtain ⟨m', hm, w7⟩ := hN σ7 H7 n7
      refine ⟨m', hm, k7, i + 1, σ7, H7, I7.unpinned, T.keep _ _ _ st5 fun b hb o e => (I7.pin (b, o) (List.mem_append_right _ (List.mem_append_right _ (mem_pinsAt hb e)))).1, fun b hb => ?_, w7⟩
      obtain ⟨o, e, d⟩ := T.obj _ _ st5 b hb
      exact (I7.pin (b, o) (List.mem_append_right _ (List.mem_append_right _ (mem_pinsAt hb e)))).2.1
    cases f with
    | next => obtain ⟨σ7, H7, I7, n7⟩ := q7; exact again I7 n7
    | cont => obtain ⟨σ7, H7, I7, n7⟩ := q7; exact again I7 n7
    | brk => obtain ⟨σ7, H7, I7, q7⟩ := q7; exact ⟨σ7, H7, I7.unpinned, q7⟩
    | ret v => obtain ⟨x7, σ7, H7, I7, r7, q7⟩ := q7; exact ⟨x7, σ7, H7, I7.unpinned, r7, q7⟩
def PTT (X : Cx) (e : Expr) (t : L2.TT) : Prop := ∀ (pins : List (Addr × Obj)) (s : Shared) (σ : L2.St) (H : Hp) (Q : Bool → Hp → Prop), 1 ≤ s.toks → Inv X pins σ H s → t σ H Q → wpAny (model X.prog X.w) X.A (isTrue e X.env (eval e X.env)) (TP X pins σ Q) X.xe s
theorem pst_ifT {a b : List Stmt} {tc : L2.TT} (hc : PTT X c tc) (ha : PSs X a t) (hb : PSs X b u) : PST X (.If c a b pos) (tIfS tc t u) := by
  intro pins s σ H D h0 I h
  refine wpAny_If (thn (hc pins s σ H _ h0 I h) fun d s1 ⟨H1, I1, q1⟩ => ?_)
  cases d with
  | true => exact ha.run pins s1 σ H1 D I1 q1
  | false => exact hb.run pins s1 σ H1 D I1 q1
theorem ptt_cmpR {op : CmpOp} {r : R2} {a b : Expr} {ta tb : TE} (ho : OpR X (compareOp op) r) (ha : PET X a ta) (hb : PE X b tb) (hm : behindInMarks op b = false) : PTT X (.Compare a [op] [b] pos) (tTest (tOp r ta tb)) := by
  intro pins s σ H Q h0 I h
  refine wpAny_isTrue_Compare1 (thn (ha pins s σ H _ h0 I h) fun v s1 ⟨x, H1, I1, r1, q1⟩ => thn (hb.run pins s1 σ H1 _ I1 q1) fun u s2 ⟨y, H2, I2, r2, q2⟩ =>
    thn (ho pins s2 σ H2 x y v u _ I2 r1 r2 q2) fun c s3 ⟨z, H3, I3, r3, k, e, q3⟩ => ?_) hm
  subst e
  cases r3
  exact wpAny_truthy_bool ⟨H3, I3, q3⟩
theorem pet_m1 {o : Expr} {to : TE} {id : String} {name : Str} {apos pos : Pos} {r : V → List V → Hp → VK → Prop} (slot : Slot "str" name id) (ty : typeOf (.builtin id) = pure (.type "method_descriptor")) (rule : MtR X id r) (ho : PET X o to) (he : PE X e te)
    (hs : starEach [e] X.env = [(false, eval e X.env)] := by rfl) (hbase : attributeBase o name X.env (eval o X.env) = eval o X.env := by rfl) (hline : (apos.endLine == pos.line) = true := by rfl) :
    PET X (.Call (.Attribute o name apos) [e] [] pos) (tM1 r to te) := by
  intro pins s σ H Q h0 I h
  refine PySem.Call_method1 hbase hs hline (thn (ho pins s σ H _ h0 I h) fun v s1 ⟨x, H1, I1, r1, q1⟩ => ?_)
  obtain ⟨⟨a, rfl⟩, q1⟩ := q1
  obtain ⟨t, rfl⟩ := _root_.id r1
  refine ⟨"str", _, F.plainAttrs_str, slot, ty, typeIs_str _ _ _, (fun _ e => nomatch e), Calls.callWith_builtin rfl (Calls.evalArgs_plain (Calls.spliced_cons ?_))⟩
  exact thn (he.run pins s1 σ H1 _ I1 q1) fun u s2 ⟨y, H2, I2, r2, q2⟩ => Calls.spliced_nil (rule pins s2 σ H2 _ [y] _ [u] Q I2 r1 (.cons r2 .nil) q2)
theorem pst_setT {i : Nat} {x : Str} {pos' : Pos} (hN : X.N.Nodup) (hi : X.N[i]? = some x) (hx : Loc X.env.scope x) (he : PET X e te) (hs : swapsWith e (some (.Name x pos')) pos.line X.env = pure false := by rfl) (hf : X.fn x = true ∨ X.env.scope.names.lookup x = some .local := by first | exact .inl rfl | exact .inr rfl | assumption) :
    PST X (.Assign [.Name x pos'] e pos) (tAsg te (gName i)) := by
  intro pins s σ H D h0 I h
  refine wpAny_Assign_Name (thn (he pins s σ H _ h0 I h) fun v s1 ⟨y, H1, I1, r1, q1⟩ => ?_) hs
  exact store_ok I1 hN hi hx r1 (fun s2 I2 => ⟨_, H1, I2, q1⟩) hf
end
/-! ### readings -/
structure DE1 (X : Cx) (T : List (Addr × Str)) (W : WX) (e : Expr) (f : Ex) : Prop where
  pe : PE1 X e (tE X.K T W f)
structure DA1 (X : Cx) (T : List (Addr × Str)) (W : WX) (es : List Expr) (f : Ax) : Prop where
  pa : PA1 X es (tA X.K T W f)
structure DI1 (X : Cx) (T : List (Addr × Str)) (W : WX) (tg iter : Expr) (it : Ix) : Prop where
  pi : PI1 X tg iter (tId X.K T W it)
structure DEt (X : Cx) (T : List (Addr × Str)) (W : WX) (e : Expr) (f : Ex) : Prop where
  pe : PET X e (tE X.K T W f)
structure DTt (X : Cx) (T : List (Addr × Str)) (W : WX) (e : Expr) (f : Tx) : Prop where
  pt : PTT X e (tT X.K T W f)
structure DSt (X : Cx) (T : List (Addr × Str)) (W : WX) (st : Stmt) (f : Sx) : Prop where
  ps : PST X st (tSt X.K T W f)
structure DSst (X : Cx) (T : List (Addr × Str)) (W : WX) (st : List Stmt) (f : Sx) : Prop where
  ps : PSsT X st (tSt X.K T W f)
theorem PE1.imp {X : Cx} {e : Expr} {t t' : TE} (h : PE1 X e t) (i : ∀ σ H Q, t' σ H Q → t σ H Q) : PE1 X e t' := fun pins s σ H Q I q => h pins s σ H Q I (i σ H Q q)
theorem PA1.imp {X : Cx} {e : List Expr} {t t' : TA} (h : PA1 X e t) (i : ∀ σ H Q, t' σ H Q → t σ H Q) : PA1 X e t' := fun p pins s σ H Q I q => h p pins s σ H Q I (i σ H Q q)
theorem PI1.imp {X : Cx} {tg e : Expr} {t t' : TI} (h : PI1 X tg e t) (i : ∀ σ H Q, t' σ H Q → t σ H Q) : PI1 X tg e t' := fun pins s σ H Q I q => h pins s σ H Q I (i σ H Q q)
theorem PETi {X : Cx} {e : Expr} {t t' : TE} (h : PET X e t) (i : ∀ σ H Q, t' σ H Q → t σ H Q) : PET X e t' := fun pins s σ H Q h0 I q => h pins s σ H Q h0 I (i σ H Q q)
theorem PTTi {X : Cx} {e : Expr} {t t' : L2.TT} (h : PTT X e t) (i : ∀ σ H Q, t' σ H Q → t σ H Q) : PTT X e t' := fun pins s σ H Q h0 I q => h pins s σ H Q h0 I (i σ H Q q)
theorem PSTi {X : Cx} {e : Stmt} {t t' : TS} (h : PST X e t) (i : ∀ D σ H, t' D σ H → t D σ H) : PST X e t' := fun pins s σ H D h0 I q => h pins s σ H D h0 I (i D σ H q)
theorem PSsTi {X : Cx} {e : List Stmt} {t t' : TS} (h : PSsT X e t) (i : ∀ D σ H, t' D σ H → t D σ H) : PSsT X e t' := fun pins s σ H D h0 I q => h pins s σ H D h0 I (i D σ H q)
def gRepl (y z : Str) (S : Store) : D → Option D
  | .str x => if x.length + (x.length + 1) * z.length ≤ 16777216 then some (.str (Txt.replace x y z)) else none
  | _ => none
section
variable {X : Cx} {T : List (Addr × Str)} {W : WX} {a b c e o : Expr} {es : List Expr} {f f1 f2 : Ex} {g : Ax} {pos apos cpos : Pos}
theorem de1_int {i : Int} {j : Nat} : DE1 X T W (.Constant (.int i) j pos) (exC (.int i)) := ⟨PE1.imp pe1_int fun σ H Q ⟨ρ, m, G, S, hh, h⟩ => h (.int i) m G H .refl hh.2 (.int i)⟩
theorem da1_cons (ha : DE1 X T W e f) (hr : DA X T W es g) (hs : starEach (e :: es) X.env = (false, eval e X.env) :: starEach es X.env := by rfl) : DA1 X T W (e :: es) (axC f g) := by
  refine ⟨PA1.imp (pa1_cons ha.pe hr.pa hs) fun σ H Q ⟨ρ, m, G, S, hh, h⟩ => ?_⟩
  refine tE.bind hh h (fun _ _ q => q) fun x S1 v m1 G1 H1 st1 hh1 rx h1 => ?_
  refine tA.bind hh1 (h1.nextA hh.2 st1) (fun _ _ q => q) fun ys S2 vs m2 G2 H2 st2 hh2 rs h2 => ?_
  exact h2.nextA hh1.2 st2 _ m2 G2 H2 .refl hh2.2 (.cons (rx.mono st2) rs)
theorem de1_max2 {p : Pos} (hc : X.calm = true) (hg : Gl X "max") (hm : X.mg "max" = none) (ha : DA1 X T W [a, b] g) (he : starEach [a, b] X.env = (false, eval a X.env) :: starEach [b] X.env := by rfl) (hpl : (backTo pos (starEach [b] X.env)).any (·.1) = false := by rfl) :
    DE1 X T W (.Call (.Name "max" p) [a, b] [] pos) (exB gMax2 g) := ⟨PE1.imp (pe1_callB (call_max2 hc) hg hm (by decide +kernel) ha.pa (he := he) (hpl := hpl)) fun _ _ _ h => callB_imp cd_max2 h⟩
theorem da1_one (ha : DE1 X T W e f) (hs : starEach (e :: []) X.env = (false, eval e X.env) :: starEach [] X.env := by rfl) : DA1 X T W [e] (axC f axN) := da1_cons ha da_nil hs
theorem di1_range1 {tg : Expr} {p : Pos} {g : Ax} (hg : Gl X "range") (hm : X.mg "range" = none) (ha : DA1 X T W [a] g) (hs : starEach [a] X.env = [(false, eval a X.env)] := by rfl) : DI1 X T W tg (.Call (.Name "range" p) [a] [] pos) (ixR1 g) := by
  refine ⟨PI1.imp (pi1_range1 hg hm ha.pa hs) fun σ H R ⟨ρ, m, G, S, hh, h⟩ => ?_⟩
  refine ⟨ρ, m, G, S, hh, (Wants.bind h).imp (fun r hr vs m1 G1 H1 st sr rs => ?_) fun _ _ q => q⟩
  obtain ⟨ds, S1⟩ := r
  dsimp only at hr sr rs
  split at hr
  · rename_i j
    split at hr
    case isFalse => exact hr.elim
    case isTrue hj =>
      obtain ⟨v, rfl, r1⟩ := rs.one
      cases r1
      exact ⟨j, rfl, hj.1, hj.2, hr m1 G1 H1 _ st sr rfl yields_range⟩
  · exact hr.elim
theorem dst_of {st : Stmt} {s : Sx} (h : DS X T W st s) : DSt X T W st s := ⟨PST.of h.ps⟩
theorem dsst_of {st : List Stmt} {s : Sx} (h : DSs X T W st s) : DSst X T W st s := ⟨PSsT.of h.ps⟩
theorem dsst_cons {st : Stmt} {rest : List Stmt} {s u : Sx} (h1 : DSt X T W st s) (h2 : DSst X T W rest u) : DSst X T W (st :: rest) (sxSeq s u) := ⟨PSsTi (psst_cons h1.ps h2.ps) fun _ _ _ h => seq_imp h⟩
theorem dsst_one {st : Stmt} {s : Sx} (h1 : DSt X T W st s) : DSst X T W [st] s := ⟨fun pins s0 σ H D h0 I q => by
  refine wpAny_execs_cons (wpAny_mono (h1.ps pins s0 σ H D h0 I q) (fun f s1 q => ?_) fun _ _ x => x)
  cases f with
  | next =>
    obtain ⟨σ', H', I', q⟩ := q
    exact wpAny_execs_nil ⟨σ', H', I', q⟩
  | ret v => exact q
  | brk => exact q
  | cont => exact q⟩
theorem ds_forT {tg iter : Expr} {body : List Stmt} {it : Ix} {gt : Gx} {is : List Nat} {s : Sx} (hp : PassesOwn (model X.prog X.w) X.A X.env X.xe) (hc : X.calm = true) (hi : DI1 X T W tg iter it) (hg : DG X tg gt is) (hb : DSst X T W body s)
    (hs : ∀ x, foldedSetIterable iter X.env x = pure x := by intro _; rfl) : DS X T W (.For tg iter body [] pos) (sxFor it gt s) := by
  refine ⟨PS.imp (ps_forT hp hc hi.pi hg.pg hb.ps hs) fun D σ H ⟨ρ, m, G, S, hh, h⟩ => ?_⟩
  refine ⟨ρ, m, G, S, hh, (Wants.bind h).imp (fun r hr m' G' H' J st sr hck hy => ?_) fun _ _ q => q.at⟩
  exact for_run ⟨hh.1.mono st, sr⟩ hck hy (hr.imp (fun _ q => q.next hh.2 st) fun _ _ q => q.next hh.2 st)
theorem dst_set (i : Nat) {x : Str} {pos' : Pos} (hN : X.N.Nodup) (ha : DEt X T W e f) (hi : X.N[i]? = some x := by rfl) (hx : Loc X.env.scope x := by first | exact Or.inl rfl | exact Or.inr rfl) (hs : swapsWith e (some (.Name x pos')) pos.line X.env = pure false := by rfl) (hf : X.fn x = true ∨ X.env.scope.names.lookup x = some .local := by first | exact .inl rfl | exact .inr rfl | assumption) :
    DSt X T W (.Assign [.Name x pos'] e pos) (sxA f (gN i)) := by
  refine ⟨PSTi (pst_setT hN hi hx ha.pe hs hf) fun D σ H ⟨ρ, m, G, S, hh, h⟩ => ?_⟩
  refine tE.bind hh h (fun _ _ q => q.at) fun d S1 v m1 G1 H1 st1 hh1 rx h1 => ?_
  exact h1 _ m1 G1 H1 st1 ⟨er_set hh1.1 rx, hh1.2⟩
theorem dst_if {t : Tx} {A B : List Stmt} {s u : Sx} (hc : DTt X T W c t) (ha : DSs X T W A s) (hb : DSs X T W B u) : DSt X T W (.If c A B pos) (sxIf t s u) := by
  refine ⟨PSTi (pst_ifT hc.pt ha.ps hb.ps) fun D σ H ⟨ρ, m, G, S, hh, h⟩ => ?_⟩
  refine tT.bind hh h (fun _ _ q => q.at) fun b S1 m1 G1 H1 st1 hh1 h1 => ?_
  cases b with
  | true => exact ⟨ρ, m1, G1, S1, hh1, h1.nextS hh.2 st1⟩
  | false => exact ⟨ρ, m1, G1, S1, hh1, h1.nextS hh.2 st1⟩
theorem repl_imp {K : PySem.W.Frag} {y z : Str} {σ : L2.St} {H : Hp} {Q : VK} (h : tE K T W (ex1S (gRepl y z) f) σ H Q) : tReplC (tE K T W f) y z σ H Q := by
  obtain ⟨ρ, m, G, S, hh, h⟩ := h
  refine tE.bind hh h (fun _ _ q => q) fun d S1 v m1 G1 H1 st1 hh1 rx h1 => ?_
  obtain ⟨d', e, p⟩ := lft_want (h1.nextE hh.2 st1)
  cases d with
  | str x =>
    have e : (if x.length + (x.length + 1) * z.length ≤ 16777216 then some (D.str (Txt.replace x y z)) else none) = some d' := e
    split at e
    case isFalse => cases e
    case isTrue hl =>
      cases e
      cases rx
      exact ⟨_, rfl, hl, p.same hh1.2 (.str _)⟩
  | _ => cases e
theorem det_repl {y z : Str} {j k : Nat} {c0 c1 : Pos} (ho : DE X T W o f) (hyz : (y == z) = false := by decide)
    (hst : starEach [.Constant (.str y) j c0, .Constant (.str z) k c1] X.env = [(false, eval (.Constant (.str y) j c0) X.env), (false, eval (.Constant (.str z) k c1) X.env)] := by rfl)
    (hbase : attributeBase o "replace" X.env (eval o X.env) = eval o X.env := by rfl) (hline : (apos.endLine == cpos.line) = true := by rfl) :
    DEt X T W (.Call (.Attribute o "replace" apos) [.Constant (.str y) j c0, .Constant (.str z) k c1] [] cpos) (ex1S (gRepl y z) f) := ⟨PETi (pet_replC ho.pe hyz hst hbase hline) fun _ _ _ h => repl_imp h⟩
theorem det_replT {y z : Str} {j k : Nat} {c0 c1 : Pos} (ho : DEt X T W o f) (hyz : (y == z) = false := by decide)
    (hst : starEach [.Constant (.str y) j c0, .Constant (.str z) k c1] X.env = [(false, eval (.Constant (.str y) j c0) X.env), (false, eval (.Constant (.str z) k c1) X.env)] := by rfl)
    (hbase : attributeBase o "replace" X.env (eval o X.env) = eval o X.env := by rfl) (hline : (apos.endLine == cpos.line) = true := by rfl) :
    DEt X T W (.Call (.Attribute o "replace" apos) [.Constant (.str y) j c0, .Constant (.str z) k c1] [] cpos) (ex1S (gRepl y z) f) := ⟨PETi (pet_replT ho.pe hyz hst hbase hline) fun _ _ _ h => repl_imp h⟩
theorem det_split (ho : DEt X T W o f1) (ha : DE X T W e f2) (hs : starEach [e] X.env = [(false, eval e X.env)] := by rfl) (hbase : attributeBase o "split" X.env (eval o X.env) = eval o X.env := by rfl) (hline : (apos.endLine == cpos.line) = true := by rfl) :
    DEt X T W (.Call (.Attribute o "split" apos) [e] [] cpos) (exS1 gSplit f1 f2) := by
  refine ⟨PETi (pet_m1 F.slot_str_split F.type_str_split mt_split ho.pe ha.pe hs hbase hline) fun σ H Q h => m1_imp (fun m G S H x y v u d Q sr rx ry e p => ?_) h⟩
  unfold gSplit at e
  split at e
  · split at e
    case isFalse => cases e
    case isTrue hl =>
      cases e
      cases rx; cases ry
      exact ⟨_, _, rfl, rfl, hl.1, hl.2, fun p0 np => p.alloc sr np (fun _ z => by cases z) (.lst upd_same (rp_strs _))⟩
  · cases e
theorem dtt_ne (hu : X.A.units + 64 < cLine) (ha : DEt X T W a f1) (hb : DE X T W b f2) : DTt X T W (.Compare a [.NotEq] [b] pos) (tx (ex2 gNe f1 f2)) := by
  refine ⟨PTTi (ptt_cmpR (op_neAll hu) ha.pe hb.pe (nomark _)) fun σ H Q ⟨ρ, m, G, S, hh, h⟩ => ?_⟩
  refine op2_imp opd_ne ⟨ρ, m, G, S, hh, (Wants.bind h).imp (fun r hr v m' G' H' st sr rp => ?_) fun _ _ q => q⟩
  obtain ⟨d, S'⟩ := r
  cases d with
  | bl k =>
    cases rp
    exact ⟨k, rfl, hr m' G' H' st sr⟩
  | _ => exact (show False from hr).elim
end
end DL

/-! DL34: text.replace over lists of signs. -/
namespace DL
open PySem PySem.Spec L2 TL StrLaws
theorem repl_txt {y : List Nat} (hy : y ≠ []) (z l : List Nat) : Txt.replace (txt l) (txt y) (txt z) = txt (replL y z l) := by
  have h := replace_list (x := txt l) (y := txt y) (z := txt z) (by rw [txt_len]; exact List.length_pos_iff.mpr hy)
  rw [txt_cps, txt_cps, txt_cps] at h
  rw [str_txt (Txt.replace (txt l) (txt y) (txt z)), h]
theorem repl_tD {S : Store} {y z l : List Nat} (hy : y ≠ []) (hl : l.length + (l.length + 1) * z.length ≤ 16777216) : gRepl (txt y) (txt z) S (tD l) = some (tD (replL y z l)) := by
  show (if (txt l).length + ((txt l).length + 1) * (txt z).length ≤ 16777216 then some (D.str (Txt.replace (txt l) (txt y) (txt z))) else none) = _
  rw [txt_len, txt_len, if_pos hl, repl_txt hy]
  rfl
theorem repl_spl {y : List Nat} (z : List Nat) : ∀ (l : List Nat) (k : Nat) (acc : List Nat), joinL z (spl y k acc l) = acc ++ replS y z k l
  | [], k, acc => by rw [spl_nil, replS]; simp [joinL]
  | c :: r, 0, acc => by
    have hp : (pre y (c :: r) = true) = ((c :: r).take y.length = y) := by unfold pre; simp
    rw [replS]
    by_cases h : (c :: r).take y.length = y
    · rw [if_pos h, spl, if_pos (by rw [hp]; exact h), joinL_cons _ _ _ (spl_ne _ _ _ _), repl_spl z r]
      simp
    · rw [if_neg h, spl, if_neg (by rw [hp]; exact h), repl_spl z r]
      simp
  | c :: r, k + 1, acc => by rw [spl, replS, repl_spl z r]
theorem repl_join (y z l : List Nat) : replL y z l = joinL z (spl y 0 [] l) := by rw [repl_spl]; simp [replL]
theorem repl_filter (c : Nat) : ∀ l : List Nat, replL [c] [] l = l.filter fun x => !(x == c)
  | [] => by rw [replL_nil]; rfl
  | x :: r => by
    by_cases h : x = c
    · subst h
      rw [replL_hit (by simp) (by simp)]
      simp [repl_filter x r]
    · rw [replL_miss (by simpa using h), repl_filter c r]
      have : (x == c) = false := by simpa using h
      simp [this]
/-- joined parts, joined -/
theorem joinL_flat (s : List Nat) : ∀ ps : List (List (List Nat)), (∀ p ∈ ps, p ≠ []) → joinL s (ps.map (joinL s)) = joinL s ps.flatten
  | [], _ => rfl
  | [p], _ => by simp [joinL]
  | p :: q :: r, h => by
    have ih := joinL_flat s (q :: r) fun x hx => h x (List.mem_cons_of_mem _ hx)
    have hp := h p List.mem_cons_self
    have hq := h q (by simp)
    have hne : (q :: r).flatten ≠ [] := by
      cases q with
      | nil => exact absurd rfl hq
      | cons a b => simp
    rw [List.map_cons, joinL_cons _ _ _ (by simp), ih]
    have key : ∀ (p q : List (List Nat)), p ≠ [] → q ≠ [] → joinL s (p ++ q) = joinL s p ++ (s ++ joinL s q) := by
      intro p
      induction p with
      | nil => intro q h; exact absurd rfl h
      | cons a b ihp =>
        intro q _ hq
        cases b with
        | nil => rw [List.singleton_append, joinL_cons _ _ _ hq]; rfl
        | cons c d =>
          rw [List.cons_append, joinL_cons _ _ _ (by simp), ihp q (by simp) hq, show joinL s (a :: c :: d) = a ++ (s ++ joinL s (c :: d)) from rfl]
          simp
    rw [show (p :: q :: r).flatten = p ++ (q :: r).flatten from rfl, key p _ hp hne]
end DL

/-! DL35: max of a list of whole numbers. -/
namespace DL
open PySem PySem.Spec L2
section
variable {X : Cx} {T : List (Addr × Str)} {W : WX} {e : Expr} {g : Ax} {pos : Pos}
def gMax (S : Store) : List D → Option D
  | [x] => ((lstOf S x).bind intsOf).bind fun ns => (maxI ns).map .int
  | _ => none
theorem cd_max {K : PySem.W.Frag} : CallD K T (rMax K) gMax := by
  intro m G S H xs vs d Q sr rs e p
  unfold gMax at e
  split at e
  · rename_i x
    obtain ⟨v, rfl, r⟩ := rs.one
    cases e1 : lstOf S x with
    | none => rw [e1] at e; cases e
    | some ds =>
      rw [e1] at e
      have e : (intsOf ds).bind (fun ns => (maxI ns).map D.int) = some d := e
      cases e2 : intsOf ds with
      | none => rw [e2] at e; cases e
      | some ns =>
        rw [e2] at e
        obtain ⟨a, xs, rfl, h1, h2⟩ := lstOf_at sr r e1
        rw [intsOf_rp h2 e2] at h1
        cases ns with
        | nil => cases e
        | cons i r =>
          cases e
          obtain ⟨k1, k2, k3⟩ := foldl_max r i
          refine ⟨a, i :: r, rfl, h1, by simp, fun mm hm hle => ?_⟩
          have h4 : mm = r.foldl max i := by
            have l1 : r.foldl max i ≤ mm := hle _ (by rcases k1 with k1 | k1 <;> simp [k1])
            have l2 : mm ≤ r.foldl max i := by
              rcases List.mem_cons.mp hm with rfl | hm
              · exact k2
              · exact k3 _ hm
            omega
          rw [h4]
          exact p.same sr (.int _)
  · cases e
theorem de_max {p : Pos} (hc : X.calm = true) (hg : Gl X "max") (hm : X.mg "max" = none) (ha : DA X T W [e] g) (he : starEach [e] X.env = [(false, eval e X.env)] := by rfl) : DE X T W (.Call (.Name "max" p) [e] [] pos) (exB gMax g) :=
  de_callB (cr_max hc) cd_max hg hm (by decide +kernel) ha (he := he) (hpl := by rfl)
end
/-- the greatest of a list told to its last -/
theorem g_max {S : Store} {x : D} {ns : List Int} {i : Int} (hx : lstOf S x = some ((i :: ns).map .int)) : gMax S [x] = some (.int (ns.foldl max i)) := by
  have e : ∀ l : List Int, intsOf (l.map .int) = some l := fun l => by
    induction l with
    | nil => rfl
    | cons a r ih => show (intsOf (r.map .int)).map (a :: ·) = _; rw [ih]; rfl
  show ((lstOf S x).bind intsOf).bind (fun ns => (maxI ns).map D.int) = _
  rw [hx]
  show ((intsOf ((i :: ns).map .int)).bind fun ns => (maxI ns).map D.int) = _
  rw [e]
  rfl
/-! ### slices, list(xs), split: as cells -/
def exSlN (f : Ex) (lo hi : Ox) : Ex := fun ρ S => (f ρ S).bind fun r => (lo ρ r.2).bind fun l => (hi ρ l.2).bind fun u => match lstOf u.2 r.1 with
  | some ds => .ok (.loc u.2.length, u.2 ++ [.lst (cutD ds l.1 u.1)])
  | none => .stuck
def gListL (S : Store) : List D → Option (List D)
  | [x] => seqOf S x
  | _ => none
def exSpN (f1 f2 : Ex) : Ex := fun ρ S => (f1 ρ S).bind fun r => if isStr r.2 r.1 = true then (f2 ρ r.2).bind fun q => match gSplit q.2 r.1 q.1 with
  | some (.lst ds) => .ok (.loc q.2.length, q.2 ++ [.lst ds])
  | _ => .stuck
  else .stuck
section
variable {X : Cx} {T : List (Addr × Str)} {W : WX} {a b c e o : Expr} {es : List Expr} {f f1 f2 f3 : Ex} {g : Ax} {pos apos cpos : Pos}
theorem de_sliceN {lo hi : Option Expr} {fl fh : Ox} {p2 : Pos} (ha : DE X T W e f) (hl : DO X T W lo fl) (hh' : DO X T W hi fh) : DE X T W (.Subscript e (.Slice lo hi none p2) pos) (exSlN f fl fh) := by
  refine ⟨PE.imp (pe_slice sl_list ha.pe hl.po hh'.po) fun σ H Q ⟨ρ, m, G, S, hh, h⟩ => ?_⟩
  refine tE.bind hh h (fun _ _ q => q) fun x S1 v m1 G1 H1 st1 hh1 rx h1 => ?_
  refine tOd.bind hh1 (h1.nextE hh.2 st1) (fun _ _ q => q) fun l S2 m2 G2 H2 st2 hh2 h2 => ?_
  refine tOd.bind hh2 (h2.nextE hh1.2 st2) (fun _ _ q => q) fun u S3 m3 G3 H3 st3 hh3 h3 => ?_
  have h3' := h3.nextE hh2.2 st3
  have rx3 := (rx.mono st2).mono st3
  dsimp only at h3'
  cases e1 : lstOf S3 x with
  | none => rw [e1] at h3'; exact h3'.elim
  | some ds =>
    rw [e1] at h3'
    obtain ⟨a, xs, rfl, k1, k2⟩ := lstOf_at hh3.2 rx3 e1
    exact ⟨a, xs, rfl, k1, fun p0 np => PostE.newCell (cl := .lst (cutD ds l u)) h3' hh3.2 np (fun _ z => by cases z) ⟨_, upd_same, (cutD_rp k2 l u).mono (Stp.cell (o := .lst (cutV xs l u)) hh3.2 np)⟩⟩
theorem fresh_list {K : PySem.W.Frag} : FreshL K T (fun xs H Q => ∃ p ys, xs = [.ref p] ∧ (SqL K H p ys ∨ SqT K H p ys) ∧ ∀ l, H l = none → Q (.ref l) (upd H l (.lst ys))) gListL := by
  intro m G S H xs vs ds Q sr rs h p
  unfold gListL at h
  split at h
  · rename_i x
    cases rs with
    | cons r1 r2 =>
      cases r2
      obtain ⟨a, ys, rfl, h1, h2⟩ := seqOf_at sr r1 h
      exact ⟨a, ys, rfl, h1, fun l np => p ys l h2 np⟩
  · cases h
theorem de_listcN {p : Pos} (hg : Gl X "list") (hm : X.mg "list" = none) (ha : DA X T W [e] g) (he : starEach [e] X.env = [(false, eval e X.env)] := by rfl) : DE X T W (.Call (.Name "list" p) [e] [] pos) (exNB gListL g) :=
  ⟨PE.imp (pe_callTy call_list_of hg hm (by decide +kernel) ha.pa (he := he) (hpl := by rfl)) fun _ _ _ h => nb_imp fresh_list h⟩
theorem de_splitN (ho : DE X T W o f1) (ha : DE X T W e f2) (hs : starEach [e] X.env = [(false, eval e X.env)] := by rfl) (hbase : attributeBase o "split" X.env (eval o X.env) = eval o X.env := by rfl) (hline : (apos.endLine == cpos.line) = true := by rfl) :
    DE X T W (.Call (.Attribute o "split" apos) [e] [] cpos) (exSpN f1 f2) := by
  refine ⟨PE.imp (pe_split ho.pe ha.pe hs hbase hline) fun σ H Q h => ?_⟩
  obtain ⟨ρ, m, G, S, hh, h⟩ := h
  refine tE.bind hh h (fun _ _ q => q) fun x S1 v m1 G1 H1 st1 hh1 rx h1 => ?_
  have h1' := h1.nextE hh.2 st1
  dsimp only at h1'
  split at h1'
  case isFalse => exact h1'.elim
  case isTrue hx =>
    refine ⟨?_, tE.bind hh1 h1' (fun _ _ q => q) fun y S2 u m2 G2 H2 st2 hh2 ry h2 => ?_⟩
    · cases rx <;> first | exact ⟨_, rfl⟩ | cases hx
    · have h2' := h2.nextE hh1.2 st2
      dsimp only at h2'
      split at h2'
      case h_2 => exact h2'.elim
      case h_1 ds e =>
        unfold gSplit at e
        split at e
        · split at e
          case isFalse => cases e
          case isTrue hl =>
            cases e
            have rx2 := rx.mono st2
            cases rx2; cases ry
            exact ⟨_, _, rfl, rfl, hl.1, hl.2, fun p0 np => PostE.newCell (cl := .lst _) h2' hh2.2 np (fun _ z => by cases z) ⟨_, upd_same, rp_strs _⟩⟩
        · cases e
@[simp] theorem ev_SlN {lo hi : Ox} {ρ : DEnv} {S : Store} : exSlN f lo hi ρ S = (f ρ S).bind fun r => (lo ρ r.2).bind fun l => (hi ρ l.2).bind fun u => match lstOf u.2 r.1 with
  | some ds => .ok (.loc u.2.length, u.2 ++ [.lst (cutD ds l.1 u.1)])
  | none => .stuck := nr rfl
@[simp] theorem ev_SpN {ρ : DEnv} {S : Store} : exSpN f1 f2 ρ S = (f1 ρ S).bind fun r => if isStr r.2 r.1 = true then (f2 ρ r.2).bind fun q => match gSplit q.2 r.1 q.1 with
  | some (.lst ds) => .ok (.loc q.2.length, q.2 ++ [.lst ds])
  | _ => .stuck
  else .stuck := nr rfl
end
/-! ### None in a list of data -/
def gInN (S : Store) (x y : D) : Option D := match x, toP (deref S y) with
  | .non, some (.list ds) => if SeqAt.shaped (.list ds) then some (.bl (ds.any fun z => PyData.eqv z .none)) else none
  | _, _ => none
def rInN (K : PySem.W.Frag) : R2 := fun x y H Q => ∃ ds, x = .non ∧ Dp K H y (.list ds) ∧ SeqAt.shaped (.list ds) = true ∧ Q (.bl (ds.any fun z => PyData.eqv z .none)) H
section
variable {X : Cx} {T : List (Addr × Str)} {W : WX} {a b : Expr} {f1 f2 : Ex} {pos : Pos}
theorem op_inN (hu : X.A.units + 64 < cLine) : OpR X (compareOp .In) (rInN X.K) := by
  intro pins s σ H x y v u Q I rx ry h
  obtain ⟨ds, rfl, he, se, q⟩ := h
  obtain ⟨as, r1⟩ := Dp.reads I .none .non v .non rx
  obtain ⟨bs, r2⟩ := Dp.reads I (.list ds) y u he ry
  have sd : SeqAt.shaped PyData.none = true := rfl
  have h0 : PyData.none.depth = 0 := by simp [PyData.depth]
  exact SeqAt.in_list_reads r2 r1 (SeqAt.canLay_of_shaped se) (SeqAt.canLay_of_shaped sd) (by omega) ⟨.bl _, H, I, rfl, q⟩
theorem opd_inN {K : PySem.W.Frag} : OpD K T (rInN K) gInN := by
  intro m G S H x y v u d Q sr rx ry h p
  unfold gInN at h
  split at h
  · rename_i ds e
    split at h
    case isFalse => cases h
    case isTrue hs =>
      cases h
      cases rx
      exact ⟨ds, rfl, dp_at sr ry e, hs, p.same sr (.bl _)⟩
  · cases h
theorem dt_inN (hu : X.A.units + 64 < cLine) (ha : DE X T W a f1) (hb : DE X T W b f2) (hm : behindInMarks .In b = false := by rfl) : DT X T W (.Compare a [.In] [b] pos) (tx (ex2 gInN f1 f2)) := dt_cmp (op_inN hu) opd_inN ha hb hm
end
/-- None is in no list of runs -/
theorem g_inN {α : Type} {S : Store} {f : α → D} {h : α → PyData} {P : α → Prop} (p : PlainP P f h) (hn : ∀ a, PyData.eqv (h a) .none = false) {x : D} {xs : List α} (hx : lstOf S x = some (xs.map f)) (ox : ∀ a ∈ xs, P a := by exact fun _ _ => trivial) : gInN S .non x = some (.bl false) := by
  have e := toP_lst p hx
  unfold gInN
  rw [e]
  dsimp only
  rw [if_pos (p.shaped xs ox)]
  congr 2
  rw [List.any_eq_false]
  intro z hz
  obtain ⟨a, _, rfl⟩ := List.mem_map.mp hz
  rw [hn]
  simp
end DL

namespace K81
open PySem PySem.Spec L2 DL

def xnames : List Str := ["BadBook", "BadSign", "BadCode", "BadText", "BadNumber", "BadRuns", "BadManner", "BadHand", "Nothing"]
abbrev prg : Program := PySem.Challenge.pw_twokeys_k81_lessons_refused
def top (i : Nat) : Stmt := PySem.Challenge.pw_twokeys_k81_lessons_refused.main.body.getD i (.Pass ⟨0, 0, 0, 0⟩)
def d_is_code : He.DefD := ⟨("is_code", none), "is_code", "is_code", defArgs (top 16), defBody (top 16), defScope (top 16), [], []⟩
def d_is_book : He.DefD := ⟨("is_book", none), "is_book", "is_book", defArgs (top 17), defBody (top 17), defScope (top 17), [], []⟩
def d_need_book : He.DefD := ⟨("need_book", none), "need_book", "need_book", defArgs (top 18), defBody (top 18), defScope (top 18), [], []⟩
def d_named : He.DefD := ⟨("named", none), "named", "named", defArgs (top 19), defBody (top 19), defScope (top 19), [], []⟩
def d_text_of_row : He.DefD := ⟨("text_of_row", none), "text_of_row", "text_of_row", defArgs (top 20), defBody (top 20), defScope (top 20), [], []⟩
def d_is_count : He.DefD := ⟨("is_count", none), "is_count", "is_count", defArgs (top 29), defBody (top 29), defScope (top 29), [], []⟩
def d_need_unit : He.DefD := ⟨("need_unit", none), "need_unit", "need_unit", defArgs (top 30), defBody (top 30), defScope (top 30), [], []⟩
def d_inner : He.DefD := ⟨("inner", none), "inner", "inner", defArgs (top 32), defBody (top 32), defScope (top 32), [], []⟩
def d_row_in : He.DefD := ⟨("row_in", none), "row_in", "row_in", defArgs (top 33), defBody (top 33), defScope (top 33), [], []⟩
def d_Listener_init : He.DefD := ⟨("Listener", some "__init__"), "__init__", "Listener.__init__", defArgs (inClass (top 36) 0), defBody (inClass (top 36) 0), defScope (inClass (top 36) 0), [], []⟩
def d_Listener_set_unit : He.DefD := ⟨("Listener", some "set_unit"), "set_unit", "Listener.set_unit", defArgs (inClass (top 36) 2), defBody (inClass (top 36) 2), defScope (inClass (top 36) 2), [], []⟩
def d_Listener_hear : He.DefD := ⟨("Listener", some "hear"), "hear", "Listener.hear", defArgs (inClass (top 36) 1), defBody (inClass (top 36) 1), defScope (inClass (top 36) 1), [], []⟩
def d_Listener_runs_now : He.DefD := ⟨("Listener", some "runs_now"), "runs_now", "Listener.runs_now", defArgs (inClass (top 36) 3), defBody (inClass (top 36) 3), defScope (inClass (top 36) 3), [], []⟩
def d_Listener_cut : He.DefD := ⟨("Listener", some "cut"), "cut", "Listener.cut", defArgs (inClass (top 36) 6), defBody (inClass (top 36) 6), defScope (inClass (top 36) 6), [], []⟩
def d_Listener_take : He.DefD := ⟨("Listener", some "take"), "take", "Listener.take", defArgs (inClass (top 36) 8), defBody (inClass (top 36) 8), defScope (inClass (top 36) 8), [], []⟩
def d_Lesson_init : He.DefD := ⟨("Lesson", some "__init__"), "__init__", "Lesson.__init__", defArgs (inClass (top 25) 0), defBody (inClass (top 25) 0), defScope (inClass (top 25) 0), [], []⟩
def d_Lesson_score_of : He.DefD := ⟨("Lesson", some "score_of"), "score_of", "Lesson.score_of", defArgs (inClass (top 25) 1), defBody (inClass (top 25) 1), defScope (inClass (top 25) 1), [], []⟩
def d_Lesson_many_known : He.DefD := ⟨("Lesson", some "many_known"), "many_known", "Lesson.many_known", defArgs (inClass (top 25) 2), defBody (inClass (top 25) 2), defScope (inClass (top 25) 2), [], []⟩
def d_Lesson_known : He.DefD := ⟨("Lesson", some "known"), "known", "Lesson.known", defArgs (inClass (top 25) 3), defBody (inClass (top 25) 3), defScope (inClass (top 25) 3), [], []⟩
def d_Lesson_answer : He.DefD := ⟨("Lesson", some "answer"), "answer", "Lesson.answer", defArgs (inClass (top 25) 6), defBody (inClass (top 25) 6), defScope (inClass (top 25) 6), [], []⟩
def d_Lesson_redo : He.DefD := ⟨("Lesson", some "redo"), "redo", "Lesson.redo", defArgs (inClass (top 25) 8), defBody (inClass (top 25) 8), defScope (inClass (top 25) 8), [], []⟩
def d_Lesson_score : He.DefD := ⟨("Lesson", some "score"), "score", "Lesson.score", defArgs (inClass (top 25) 9), defBody (inClass (top 25) 9), defScope (inClass (top 25) 9), [], []⟩
def d_Lesson_answers : He.DefD := ⟨("Lesson", some "answers"), "answers", "Lesson.answers", defArgs (inClass (top 25) 10), defBody (inClass (top 25) 10), defScope (inClass (top 25) 10), [], []⟩
def d_law_cell : He.DefD := ⟨("_law_cell", none), "_law_cell", "_law_cell", defArgs (top 38), defBody (top 38), defScope (top 38), [], []⟩
def d_law_drawn : He.DefD := ⟨("_law_drawn", none), "_law_drawn", "_law_drawn", defArgs (top 39), defBody (top 39), defScope (top 39), [], []⟩
def d_law_word : He.DefD := ⟨("_law_word", none), "_law_word", "_law_word", defArgs (top 40), defBody (top 40), defScope (top 40), [], []⟩
def d_law_told : He.DefD := ⟨("_law_told", none), "_law_told", "_law_told", defArgs (top 41), defBody (top 41), defScope (top 41), [], []⟩
def d_law_code : He.DefD := ⟨("_law_code", none), "_law_code", "_law_code", defArgs (top 42), defBody (top 42), defScope (top 42), [], []⟩
def d_law_signs : He.DefD := ⟨("_law_signs", none), "_law_signs", "_law_signs", defArgs (top 43), defBody (top 43), defScope (top 43), [], []⟩
def d_law_full_right : He.DefD := ⟨("_law_full_right", none), "_law_full_right", "_law_full_right", defArgs (top 44), defBody (top 44), defScope (top 44), [], []⟩
def d_law : He.DefD := ⟨("law", none), "law", "law", defArgs (top 45), defBody (top 45), defScope (top 45), [], []⟩
def fn : List He.DefD := [d_is_code, d_is_book, d_need_book, d_named, d_text_of_row, d_is_count, d_need_unit, d_inner, d_row_in, d_Listener_init, d_Listener_set_unit, d_Listener_hear, d_Listener_runs_now, d_Listener_cut, d_Listener_take, d_Lesson_init, d_Lesson_score_of, d_Lesson_many_known, d_Lesson_known, d_Lesson_answer, d_Lesson_redo, d_Lesson_score, d_Lesson_answers, d_law_cell, d_law_drawn, d_law_word, d_law_told, d_law_code, d_law_signs, d_law_full_right, d_law]
def tf : List He.Defn := [("_law_full_right", none), ("law", none)]
def fa0 : List He.Fa := [.free "all", .free "len", .int "MOST_CODE" 6, .free "isinstance", .free "str", .free "dict", .str "SIGNS" "abcdefghijklmnopqrstuvwxyz0123456789.,?/=", .free "set", .glo "is_code", .glo "is_book", .glo "BadBook", .exc "BadBook", .glo "named", .str "UNKNOWN" "#", .free "bool", .free "int", .int "MOST_UNIT" 9, .glo "is_count", .glo "BadNumber", .exc "BadNumber"]
def fa1 : List He.Fa := [.glo "inner", .glo "need_book", .glo "need_unit", .cls "Listener", .noat "Listener" "book", .noat "Listener" "unit", .noat "Listener" "some", .glo "BadRuns", .exc "BadRuns", .int "MOST_LONG" 2000, .int "MOST_HEARD" 200, .free "list", .free "enumerate", .meth "Listener" "cut", .glo "row_in", .glo "text_of_row", .int "BEGIN" 2, .int "MOST_SIGNS" 20, .glo "BadSign", .exc "BadSign"]
def fa2 : List He.Fa := [.cls "Lesson", .noat "Lesson" "book", .noat "Lesson" "signs", .noat "Lesson" "rows", .noat "Lesson" "taken", .free "max", .free "range", .meth "Lesson" "score_of", .int "ENOUGH" 3, .meth "Lesson" "many_known", .glo "BadCode", .exc "BadCode", .glo "Nothing", .exc "Nothing", .glo "BadText", .glo "BadHand", .glo "BadManner", .free "ValueError", .free "sum", .mkr "Listener"]
def fa3 : List He.Fa := [.glo "Listener", .meth "Listener" "hear", .glo "_law_told", .glo "KeysError", .glo "_law_word", .meth "Listener" "runs_now", .meth "Listener" "take", .free "min", .glo "_law_cell", .glo "_law_drawn", .glo "_law_signs", .glo "_law_code", .mkr "Lesson", .glo "Lesson", .meth "Listener" "set_unit", .meth "Lesson" "answers", .meth "Lesson" "answer", .meth "Lesson" "score", .glo "_law_full_right", .meth "Lesson" "known"]
def fa4 : List He.Fa := [.meth "Lesson" "redo", .glo "law"]
def fa : List He.Fa := fa0 ++ fa1 ++ fa2 ++ fa3 ++ fa4
def ex (K : PySem.W.Frag) : Bool := nodupT tf K && (xcsB K xnames "KeysError")
theorem ex_0 {K : PySem.W.Frag} {mg : Str → Option Value} {base : Heap} (c : Fs fa fn tf ex K mg base) : (nodupT tf K) = true := (He.ba (show (nodupT tf K && (xcsB K xnames "KeysError")) = true from c.more)).1
theorem ex_nd {K : PySem.W.Frag} {mg : Str → Option Value} {base : Heap} (c : Fs fa fn tf ex K mg base) : nodupT tf K = true := ex_0 c
theorem ex_1 {K : PySem.W.Frag} {mg : Str → Option Value} {base : Heap} (c : Fs fa fn tf ex K mg base) : (xcsB K xnames "KeysError") = true := (He.ba (show (nodupT tf K && (xcsB K xnames "KeysError")) = true from c.more)).2
theorem ex_xs {K : PySem.W.Frag} {mg : Str → Option Value} {base : Heap} (c : Fs fa fn tf ex K mg base) : xcsB K xnames "KeysError" = true := ex_1 c
def loose0 : List Str := ["_wall", "KeysError", "BadBook", "BadSign", "BadCode", "BadText", "BadNumber", "BadRuns", "BadManner", "BadHand", "Nothing", "SIGNS", "MOST_CODE", "UNKNOWN", "is_code", "is_book", "need_book", "named", "text_of_row", "MOST_SIGNS"]
def loose1 : List Str := ["ENOUGH", "BEGIN", "Lesson", "MOST_UNIT", "MOST_LONG", "is_count", "need_unit", "inner", "row_in", "MOST_HEARD", "Listener", "_law_cell", "_law_drawn", "_law_word", "_law_told", "_law_code", "_law_signs", "_law_full_right"]
def loose : List Str := loose0 ++ loose1
def lawAt : Nat := 45
def lawGlo : Nat := 81
/-! ### the head -/
abbrev Rw : PySem.W.OpenRow := PySem.W.OpenLaw.row PySem.Challenge.rw_twokeys_k81_lessons_refused
abbrev hk : PySem.W.Hook := He.hookX 6 fa fn [] tf ex
def ob (s : PySem.W.SharedT) : He.AlX := He.obsX 6 fa fn [] tf ex (HandSHeadRun.getT s)
theorem ob_eq (s : PySem.W.SharedT) : ob s = hk.obs s.abs := He.obsX_eq (HandSHeadRun.getT_eq s)

theorem run (w : World) : HandSHeadRun.RunEq Rw (PySem.W.view Rw.prog [45]) hk ob 4000 loose w := by
  exact PySem.W.byRow2 "special-get-raises" (P := fun w => HandSHeadRun.RunEq Rw (PySem.W.view Rw.prog [45]) hk ob 4000 loose w) (fun w os => by kernel_rfl) (fun w os => by kernel_rfl) w

noncomputable section
variable {P : Program} {w : World} {K : PySem.W.Frag} {mg : Str → Option Value} {base : Heap}
/-- what is_code does -/
def sx_is_code (K : PySem.W.Frag) : Sx :=
    (sxR (exAnd (exIsi "str" (exV 0)) (exAnd (exCh gLe gLe (exC (.int 1)) (exB gLen (axC (exV 0) axN)) (exC (.int 6))) (exB gAll (axC (exLc (ixV (exV 0)) (gN 1) txY (ex2 gIn (exV 1) (exC (.str ".-"))) [1]) axN)))))
theorem sc_is_code : FnScope ["thing", "one"] ["thing"] (defScope (top 16)) := ⟨rfl, rfl, rfl, by decide +kernel, rfl, by decide +kernel, by decide +kernel⟩
def F_is_code (K : PySem.W.Frag) : Fx := runF 2 (sx_is_code K)
theorem g_is_code (c : Fs fa fn tf ex K mg base) : Good P w K mg base (TT tf K) 1 (He.ga K "is_code") ["thing"] (F_is_code K) := by
  obtain ⟨fd, F⟩ := c.d.def_ 0 (d := d_is_code) rfl
  refine fnG (st := (top 16)) (N := ["thing", "one"]) (s := sx_is_code K) F sc_is_code (fun _ _ _ _ _ _ us hl => match us, hl with | [_], _ => rfl) fun cdv A outer s0 H E hr => ?_
  exact (dss_one (ds_ret (de_and (de_isi kit_str rfl (c.free 3) rfl (c.free 4) rfl (de_var 0)) (de_and (de_leLe de_int (de_len rfl (c.free 1) (da_cons (de_var 0) da_nil)) (de_gint (c.int 2) rfl)) (de_one (de_all rfl rfl (c.free 0) (da_cons (de_lc rfl sc_is_code.nd (di_val (de_var 0)) (own := [("one", 1)]) (blkOk_by (by kernel_rfl)) (fun _ _ _ _ _ => (dg_name 1 sc_is_code.nd)) (fun _ _ _ _ _ => dts_nil) (fun _ _ _ _ _ => (de_in (hu_of hr) (de_var 1) de_str))) da_nil)))))))
def el_is_book_0 (K : PySem.W.Frag) : Ex := (exAnd (exIsi "str" (exV 2)) (exAnd (ex2 gEq (exB gLen (axC (exV 2) axN)) (exC (.int 1))) (ex2 gIn (exV 2) (exC (.str "abcdefghijklmnopqrstuvwxyz0123456789.,?/=")))))
/-- what is_book does -/
def sx_is_book (K : PySem.W.Frag) : Sx :=
    (sxSeq (sxIf (txOr (txNot (txT (exIsi "dict" (exV 0)))) (tx (ex2 gEqE (exV 0) exD0))) (sxR (exC (.bl false))) sxNil)
    (sxSeq (sxIf (txNot (txT (exB gAll (axC (exLcN 0 (gN 2) txY (el_is_book_0 K) [2]) axN)))) (sxR (exC (.bl false))) sxNil)
    (sxSeq (sxA (exLcN 0 (gN 2) txY (ex2 gIx (exV 0) (exV 2)) [2]) (gN 1))
    (sxR (exAnd (exB gAll (axC (exLc (ixV (exV 1)) (gN 3) txY (exF 1 (F_is_code K) (axC (exV 3) axN)) [3]) axN)) (ex2 gEq (exLenSet (exV 1)) (exB gLen (axC (exV 1) axN))))))))
theorem sc_is_book : FnScope ["thing", "codes", "sign", "code"] ["thing"] (defScope (top 17)) := ⟨rfl, rfl, rfl, by decide +kernel, rfl, by decide +kernel, by decide +kernel⟩
def F_is_book (K : PySem.W.Frag) : Fx := runF 4 (sx_is_book K)
theorem g_is_book (c : Fs fa fn tf ex K mg base) : Good P w K mg base (TT tf K) 2 (He.ga K "is_book") ["thing"] (F_is_book K) := by
  obtain ⟨fd, F⟩ := c.d.def_ 1 (d := d_is_book) rfl
  refine fnG (st := (top 17)) (N := ["thing", "codes", "sign", "code"]) (s := sx_is_book K) F sc_is_book (fun _ _ _ _ _ _ us hl => match us, hl with | [_], _ => rfl) fun cdv A outer s0 H E hr => ?_
  exact (dss_cons (ds_if (DW.dt (dw_or (dt_not (dt_val (de_isi kit_dict rfl (c.free 3) rfl (c.free 5) rfl (de_var 0)))) (dw_or1 (dt_eqE hr.units (de_var 0) de_dct0)))) (dss_one (ds_ret de_bl)) dss_nil) (dss_cons (ds_if (dt_not (dt_val (de_all rfl rfl (c.free 0) (da_cons (de_lcN 0 rfl sc_is_book.nd (own := [("sign", 2)]) (blkOk_by (by kernel_rfl)) (fun _ _ _ _ _ => (dg_name 2 sc_is_book.nd)) (fun _ _ _ _ _ => dts_nil) (fun _ _ _ _ _ => (de_and (de_isi kit_str rfl (c.free 3) rfl (c.free 4) rfl (de_var 2)) (de_and (de_eq hr.units (de_len rfl (c.free 1) (da_cons (de_var 2) da_nil)) de_int) (de_one (de_in (hu_of hr) (de_var 2) (de_gstr (c.str 6) rfl))))))) da_nil)))) (dss_one (ds_ret de_bl)) dss_nil) (dss_cons (ds_setLcN 1 0 rfl sc_is_book.nd (own := [("sign", 2)]) (blkOk_by (by kernel_rfl)) (fun _ _ _ _ _ => (dg_name 2 sc_is_book.nd)) (fun _ _ _ _ _ => dts_nil) (fun _ _ _ _ _ => (de_ix (hu_of hr) (de_var 0) (de_var 2)))) (dss_one (ds_ret (de_and (de_all rfl rfl (c.free 0) (da_cons (de_lc rfl sc_is_book.nd (di_val (de_var 1)) (own := [("code", 3)]) (blkOk_by (by kernel_rfl)) (fun _ _ _ _ _ => (dg_name 3 sc_is_book.nd)) (fun _ _ _ _ _ => dts_nil) (fun _ _ _ _ _ => (de_callG (g_is_code c) hr (c.glo 8) tk0 (by decide) rfl (da_cons (de_var 3) da_nil)))) da_nil)) (de_one (de_eq hr.units (de_lenSet rfl rfl (c.free 1) rfl (c.free 7) (de_var 1)) (de_len rfl (c.free 1) (da_cons (de_var 1) da_nil))))))))))
/-- what need_book does -/
def sx_need_book (K : PySem.W.Frag) : Sx :=
    (sxIf (txNot (txT (exF 1 (F_is_book K) (axC (exV 0) axN)))) (sxX (He.ga K "BadBook")) sxNil)
theorem sc_need_book : FnScope ["book"] ["book"] (defScope (top 18)) := ⟨rfl, rfl, rfl, by decide +kernel, rfl, by decide +kernel, by decide +kernel⟩
def F_need_book (K : PySem.W.Frag) : Fx := runF 1 (sx_need_book K)
theorem g_need_book (c : Fs fa fn tf ex K mg base) : Good P w K mg base (TT tf K) 3 (He.ga K "need_book") ["book"] (F_need_book K) := by
  obtain ⟨fd, F⟩ := c.d.def_ 2 (d := d_need_book) rfl
  refine fnG (st := (top 18)) (N := ["book"]) (s := sx_need_book K) F sc_need_book (fun _ _ _ _ _ _ us hl => match us, hl with | [_], _ => rfl) fun cdv A outer s0 H E hr => ?_
  exact (dss_one (ds_if (dt_not (dt_val (de_callG (g_is_book c) hr (c.glo 9) (tkO rfl rfl rfl rfl) (by decide) rfl (da_cons (de_var 0) da_nil)))) (dss_one (ds_raiseE rfl (tkO rfl rfl rfl rfl) (c.glo 10) (c.exc 11) rfl)) dss_nil))
def lp_named_0 (K : PySem.W.Frag) : Sx := (sxIf (tx (ex2 gEq (ex2 gIx (exV 0) (exV 2)) (exV 1))) (sxR (exV 2)) sxNil)
/-- what named does -/
def sx_named (K : PySem.W.Frag) : Sx :=
    (sxSeq (sxForN 0 (gN 2) (lp_named_0 K))
    (sxR (exC .non)))
theorem sc_named : FnScope ["book", "code", "sign"] ["book", "code"] (defScope (top 19)) := ⟨rfl, rfl, rfl, by decide +kernel, rfl, by decide +kernel, by decide +kernel⟩
def F_named (K : PySem.W.Frag) : Fx := runF 3 (sx_named K)
theorem g_named (c : Fs fa fn tf ex K mg base) : Good P w K mg base (TT tf K) 1 (He.ga K "named") ["book", "code"] (F_named K) := by
  obtain ⟨fd, F⟩ := c.d.def_ 3 (d := d_named) rfl
  refine fnG (st := (top 19)) (N := ["book", "code", "sign"]) (s := sx_named K) F sc_named (fun _ _ _ _ _ _ us hl => match us, hl with | [_, _], _ => rfl) fun cdv A outer s0 H E hr => ?_
  exact (dss_cons (ds_forN 0 (passes_of rfl) rfl (dg_name 2 sc_named.nd) (dss_one (ds_if (dt_eq hr.units (de_ix (hu_of hr) (de_var 0) (de_var 2)) (de_var 1)) (dss_one (ds_ret (de_var 2))) dss_nil))) (dss_one (ds_ret de_non)))
def el_text_of_row_0 (K : PySem.W.Frag) : Ex := (exIf (tx (ex2 gIs (exV 6) (exC .non))) (exC (.str "#")) (exV 6))
def lp_text_of_row_1 (K : PySem.W.Frag) : Sx := (sxSeq (sxA (exLc (ixV (exS1 gSplit (exV 3) (exC (.str " ")))) (gN 5) txY (exF 2 (F_named K) (axC (exV 0) (axC (exV 5) axN))) [5]) (gN 4))
    (sxE (exM isList gAppend (exV 2) (axC (exS1 gJoin (exC (.str "")) (exLc (ixV (exV 4)) (gN 6) txY (el_text_of_row_0 K) [6])) axN))))
/-- what text_of_row does -/
def sx_text_of_row (K : PySem.W.Frag) : Sx :=
    (sxSeq (sxA (exNew axN) (gN 2))
    (sxSeq (sxFor (ixV (exS1 gSplit (exV 1) (exC (.str " / ")))) (gN 3) (lp_text_of_row_1 K))
    (sxR (exS1 gJoin (exC (.str " ")) (exV 2)))))
theorem sc_text_of_row : FnScope ["book", "row", "words", "part", "signs", "code", "sign"] ["book", "row"] (defScope (top 20)) := ⟨rfl, rfl, rfl, by decide +kernel, rfl, by decide +kernel, by decide +kernel⟩
theorem gR_text_of_row (c : Fs fa fn tf ex K mg base) : Good P w K mg base (TT tf K) 2 (He.ga K "text_of_row") ["book", "row"] (runF 7 (sx_text_of_row K)) := by
  obtain ⟨fd, F⟩ := c.d.def_ 4 (d := d_text_of_row) rfl
  refine fnG (st := (top 20)) (N := ["book", "row", "words", "part", "signs", "code", "sign"]) (s := sx_text_of_row K) F sc_text_of_row (fun _ _ _ _ _ _ us hl => match us, hl with | [_, _], _ => rfl) fun cdv A outer s0 H E hr => ?_
  exact (dss_cons (ds_set 2 sc_text_of_row.nd (de_new da_nil)) (dss_cons (ds_for (passes_of rfl) rfl (di_val (de_split (de_var 1) de_str)) (dg_name 3 sc_text_of_row.nd) (dss_cons (ds_setLc (i := 4) rfl sc_text_of_row.nd (di_val (de_split (de_var 3) de_str)) (own := [("code", 5)]) (blkOk_by (by kernel_rfl)) (fun _ _ _ _ _ => (dg_name 5 sc_text_of_row.nd)) (fun _ _ _ _ _ => dts_nil) (fun _ _ _ _ _ => (de_callG (g_named c) hr (c.glo 12) tk0 (by decide) rfl (da_cons (de_var 0) (da_cons (de_var 5) da_nil))))) (dss_one (ds_expr (de_append (de_var 2) (da_cons (de_join de_str (de_lc rfl sc_text_of_row.nd (di_val (de_var 4)) (own := [("sign", 6)]) (blkOk_by (by kernel_rfl)) (fun _ _ _ _ _ => (dg_name 6 sc_text_of_row.nd)) (fun _ _ _ _ _ => dts_nil) (fun _ _ _ _ _ => (de_if (dt_is (de_var 6) de_non) (de_gstr (c.str 13) rfl) (de_var 6))))) da_nil)))))) (dss_one (ds_ret (de_join de_str (de_var 2))))))
def F_text_of_row (K : PySem.W.Frag) : Fx := ownF (runF 7 (sx_text_of_row K))
theorem g_text_of_row (c : Fs fa fn tf ex K mg base) : Good P w K mg base (TT tf K) 2 (He.ga K "text_of_row") ["book", "row"] (F_text_of_row K) := (gR_text_of_row c).own
/-- what is_count does -/
def sx_is_count (K : PySem.W.Frag) : Sx :=
    (sxR (exAnd (exIsi "int" (exV 0)) (exAnd (ex1 gNot (exIsi "bool" (exV 0))) (exCh gLe gLe (exV 1) (exV 0) (exV 2)))))
theorem sc_is_count : FnScope ["thing", "low", "high"] ["thing", "low", "high"] (defScope (top 29)) := ⟨rfl, rfl, rfl, by decide +kernel, rfl, by decide +kernel, by decide +kernel⟩
def F_is_count (K : PySem.W.Frag) : Fx := runF 3 (sx_is_count K)
theorem g_is_count (c : Fs fa fn tf ex K mg base) : Good P w K mg base (TT tf K) 1 (He.ga K "is_count") ["thing", "low", "high"] (F_is_count K) := by
  obtain ⟨fd, F⟩ := c.d.def_ 5 (d := d_is_count) rfl
  refine fnG (st := (top 29)) (N := ["thing", "low", "high"]) (s := sx_is_count K) F sc_is_count (fun _ _ _ _ _ _ us hl => match us, hl with | [_, _, _], _ => rfl) fun cdv A outer s0 H E hr => ?_
  exact (dss_one (ds_ret (de_and (de_isi kit_int rfl (c.free 3) rfl (c.free 15) rfl (de_var 0)) (de_and (de_not (de_isi kit_bool rfl (c.free 3) rfl (c.free 14) rfl (de_var 0))) (de_one (de_leLe (de_var 1) (de_var 0) (de_var 2)))))))
/-- what need_unit does -/
def sx_need_unit (K : PySem.W.Frag) : Sx :=
    (sxIf (txNot (txT (exF 3 (F_is_count K) (axC (exV 0) (axC (exC (.int 1)) (axC (exC (.int 9)) axN)))))) (sxX (He.ga K "BadNumber")) sxNil)
theorem sc_need_unit : FnScope ["unit"] ["unit"] (defScope (top 30)) := ⟨rfl, rfl, rfl, by decide +kernel, rfl, by decide +kernel, by decide +kernel⟩
def F_need_unit (K : PySem.W.Frag) : Fx := runF 1 (sx_need_unit K)
theorem g_need_unit (c : Fs fa fn tf ex K mg base) : Good P w K mg base (TT tf K) 2 (He.ga K "need_unit") ["unit"] (F_need_unit K) := by
  obtain ⟨fd, F⟩ := c.d.def_ 6 (d := d_need_unit) rfl
  refine fnG (st := (top 30)) (N := ["unit"]) (s := sx_need_unit K) F sc_need_unit (fun _ _ _ _ _ _ us hl => match us, hl with | [_], _ => rfl) fun cdv A outer s0 H E hr => ?_
  exact (dss_one (ds_if (dt_not (dt_val (de_callG (g_is_count c) hr (c.glo 17) (tkO rfl rfl rfl rfl) (by decide) rfl (da_cons (de_var 0) (da_cons de_int (da_cons (de_gint (c.int 16) rfl) da_nil)))))) (dss_one (ds_raiseE rfl (tkO rfl rfl rfl rfl) (c.glo 18) (c.exc 19) rfl)) dss_nil))
/-- what inner does -/
def sx_inner (K : PySem.W.Frag) : Sx :=
    (sxSeq (sxA (exB gInt (axC (exAnd (ex2 gNe (exV 0) (exLst axN)) (ex1 gNot (ex2 gIx (ex2 gIx (exV 0) (exC (.int 0))) (exC (.int 0))))) axN)) (gN 1))
    (sxSeq (sxA (ex2 gSub (exB gLen (axC (exV 0) axN)) (exB gInt (axC (exAnd (ex2 gGt (exB gLen (axC (exV 0) axN)) (exV 1)) (ex1 gNot (ex2 gIx (ex2 gIx (exV 0) (ex1 gNeg (exC (.int 1)))) (exC (.int 0))))) axN))) (gN 2))
    (sxR (exSl (exV 0) (oxS (exV 1)) (oxS (exV 2))))))
theorem sc_inner : FnScope ["some", "first", "behind"] ["some"] (defScope (top 32)) := ⟨rfl, rfl, rfl, by decide +kernel, rfl, by decide +kernel, by decide +kernel⟩
def F_inner (K : PySem.W.Frag) : Fx := runF 3 (sx_inner K)
theorem g_inner (c : Fs fa fn tf ex K mg base) : Good P w K mg base (TT tf K) 1 (He.ga K "inner") ["some"] (F_inner K) := by
  obtain ⟨fd, F⟩ := c.d.def_ 7 (d := d_inner) rfl
  refine fnG (st := (top 32)) (N := ["some", "first", "behind"]) (s := sx_inner K) F sc_inner (fun _ _ _ _ _ _ us hl => match us, hl with | [_], _ => rfl) fun cdv A outer s0 H E hr => ?_
  exact (dss_cons (ds_set 1 sc_inner.nd (de_intc rfl (c.free 15) (da_cons (de_and (de_ne hr.units (de_var 0) (de_lst da_nil)) (de_one (de_not (de_ix (hu_of hr) (de_ix (hu_of hr) (de_var 0) de_int) de_int)))) da_nil))) (dss_cons (ds_set 2 sc_inner.nd (de_sub (de_len rfl (c.free 1) (da_cons (de_var 0) da_nil)) (de_intc rfl (c.free 15) (da_cons (de_and (de_gt (de_len rfl (c.free 1) (da_cons (de_var 0) da_nil)) (de_var 1)) (de_one (de_not (de_ix (hu_of hr) (de_ix (hu_of hr) (de_var 0) (de_neg de_int)) de_int)))) da_nil)))) (dss_one (ds_ret (de_slice (de_var 0) (do_some (de_var 1)) (do_some (de_var 2)))))))
def lp_row_in_0 (K : PySem.W.Frag) : Sx := (sxIf (txT (exV 3)) (sxA (ex2 gAdd (exV 2) (exIf (tx (ex2 gLt (exV 4) (ex2 gMul (exC (.int 2)) (exV 1)))) (exC (.str ".")) (exC (.str "-")))) (gN 2)) (sxIf (tx (ex2 gGe (exV 4) (ex2 gMul (exC (.int 5)) (exV 1)))) (sxA (ex2 gAdd (exV 2) (exC (.str " / "))) (gN 2)) (sxIf (tx (ex2 gGe (exV 4) (ex2 gMul (exC (.int 2)) (exV 1)))) (sxA (ex2 gAdd (exV 2) (exC (.str " "))) (gN 2)) sxNil)))
/-- what row_in does -/
def sx_row_in (K : PySem.W.Frag) : Sx :=
    (sxSeq (sxA (exC (.str "")) (gN 2))
    (sxSeq (sxFor (ixV (exF 1 (F_inner K) (axC (exV 0) axN))) (gT 2 (gsC (gN 3) (gsC (gN 4) gsN))) (lp_row_in_0 K))
    (sxR (exV 2))))
theorem sc_row_in : FnScope ["some", "unit", "found", "is_tone", "ticks"] ["some", "unit"] (defScope (top 33)) := ⟨rfl, rfl, rfl, by decide +kernel, rfl, by decide +kernel, by decide +kernel⟩
def F_row_in (K : PySem.W.Frag) : Fx := runF 5 (sx_row_in K)
theorem g_row_in (c : Fs fa fn tf ex K mg base) : Good P w K mg base (TT tf K) 2 (He.ga K "row_in") ["some", "unit"] (F_row_in K) := by
  obtain ⟨fd, F⟩ := c.d.def_ 8 (d := d_row_in) rfl
  refine fnG (st := (top 33)) (N := ["some", "unit", "found", "is_tone", "ticks"]) (s := sx_row_in K) F sc_row_in (fun _ _ _ _ _ _ us hl => match us, hl with | [_, _], _ => rfl) fun cdv A outer s0 H E hr => ?_
  exact (dss_cons (ds_set 2 sc_row_in.nd de_str) (dss_cons (ds_for (passes_of rfl) rfl (di_val (de_callG (g_inner c) hr (c.glo 20) (tkO rfl rfl rfl rfl) (by decide) rfl (da_cons (de_var 0) da_nil))) (dg_tup rfl (dgs_cons (dg_name 3 sc_row_in.nd) (dgs_cons (dg_name 4 sc_row_in.nd) dgs_nil))) (dss_one (ds_if (dt_val (de_var 3)) (dss_one (ds_set 2 sc_row_in.nd (de_add (de_var 2) (de_if (dt_lt (de_var 4) (de_mul de_int (de_var 1))) de_str de_str)))) (dss_one (ds_if (dt_ge (de_var 4) (de_mul de_int (de_var 1))) (dss_one (ds_set 2 sc_row_in.nd (de_add (de_var 2) de_str))) (dss_one (ds_if (dt_ge (de_var 4) (de_mul de_int (de_var 1))) (dss_one (ds_set 2 sc_row_in.nd (de_add (de_var 2) de_str))) dss_nil))))))) (dss_one (ds_ret (de_var 2)))))
/-- what Listener.__init__ does -/
def sx_Listener_init (K : PySem.W.Frag) : Sx :=
    (sxSeq (sxE (exF 1 (F_need_book K) (axC (exV 1) axN)))
    (sxSeq (sxE (exF 1 (F_need_unit K) (axC (exV 2) axN)))
    (sxSeq (sxFld (He.ga K "Listener") "book" (exV 0) (exB (fun S xs => (gDict S xs).map .dct) (axC (exV 1) axN)))
    (sxSeq (sxFld (He.ga K "Listener") "unit" (exV 0) (exV 2))
    (sxFld (He.ga K "Listener") "some" (exV 0) (exNew axN))))))
theorem sc_Listener_init : FnScope ["self", "book", "unit"] ["self", "book", "unit"] (defScope (inClass (top 36) 0)) := ⟨rfl, rfl, rfl, by decide +kernel, rfl, by decide +kernel, by decide +kernel⟩
def F_Listener_init (K : PySem.W.Frag) : Fx := runF 3 (sx_Listener_init K)
theorem g_Listener_init (c : Fs fa fn tf ex K mg base) : Good P w K mg base (TT tf K) 4 (He.ma K (He.ga K "Listener") "__init__") ["self", "book", "unit"] (F_Listener_init K) := by
  obtain ⟨fd, F⟩ := c.d.def_ 9 (d := d_Listener_init) rfl
  refine fnG (st := (inClass (top 36) 0)) (N := ["self", "book", "unit"]) (s := sx_Listener_init K) F sc_Listener_init (fun _ _ _ _ _ _ us hl => match us, hl with | [_, _, _], _ => rfl) fun cdv A outer s0 H E hr => ?_
  exact (dss_cons (ds_expr (de_callG (g_need_book c) hr (c.glo 21) (tkO rfl rfl rfl rfl) (by decide) rfl (da_cons (de_var 1) da_nil))) (dss_cons (ds_expr (de_callG (g_need_unit c) hr (c.glo 22) (tkO rfl rfl rfl rfl) (by decide) rfl (da_cons (de_var 2) da_nil))) (dss_cons (ds_fld (c.cls 23) (c.noat 24) (de_dict rfl rfl (c.free 5) (da_cons (de_var 1) da_nil)) (de_var 0)) (dss_cons (ds_fld (c.cls 23) (c.noat 25) (de_var 2) (de_var 0)) (dss_one (ds_fld (c.cls 23) (c.noat 26) (de_new da_nil) (de_var 0)))))))
/-- what Listener.set_unit does -/
def sx_Listener_set_unit (K : PySem.W.Frag) : Sx :=
    (sxSeq (sxE (exF 1 (F_need_unit K) (axC (exV 1) axN)))
    (sxFld (He.ga K "Listener") "unit" (exV 0) (exV 1)))
theorem sc_Listener_set_unit : FnScope ["self", "unit"] ["self", "unit"] (defScope (inClass (top 36) 2)) := ⟨rfl, rfl, rfl, by decide +kernel, rfl, by decide +kernel, by decide +kernel⟩
def F_Listener_set_unit (K : PySem.W.Frag) : Fx := runF 2 (sx_Listener_set_unit K)
theorem g_Listener_set_unit (c : Fs fa fn tf ex K mg base) : Good P w K mg base (TT tf K) 3 (He.ma K (He.ga K "Listener") "set_unit") ["self", "unit"] (F_Listener_set_unit K) := by
  obtain ⟨fd, F⟩ := c.d.def_ 10 (d := d_Listener_set_unit) rfl
  refine fnG (st := (inClass (top 36) 2)) (N := ["self", "unit"]) (s := sx_Listener_set_unit K) F sc_Listener_set_unit (fun _ _ _ _ _ _ us hl => match us, hl with | [_, _], _ => rfl) fun cdv A outer s0 H E hr => ?_
  exact (dss_cons (ds_expr (de_callG (g_need_unit c) hr (c.glo 22) (tkO rfl rfl rfl rfl) (by decide) rfl (da_cons (de_var 1) da_nil))) (dss_one (ds_fld (c.cls 23) (c.noat 25) (de_var 1) (de_var 0))))
/-- what Listener.hear does -/
def sx_Listener_hear (K : PySem.W.Frag) : Sx :=
    (sxSeq (sxIf (txOr (txNot (txT (exIsi "bool" (exV 1)))) (txOr (txT (exIsi "bool" (exV 2))) (txNot (txT (exIsi "int" (exV 2)))))) (sxX (He.ga K "BadRuns")) sxNil)
    (sxSeq (sxIf (txNot (tx (exCh gLe gLe (exC (.int 1)) (exV 2) (exC (.int 2000))))) (sxX (He.ga K "BadRuns")) sxNil)
    (sxIf (txAnd (tx (ex2 gNe (ex1S (fun S x => fldOf S x (He.ga K "Listener") "some") (exV 0)) (exLst axN))) (tx (ex2 gEq (ex2 gIx (ex2 gIx (ex1S (fun S x => fldOf S x (He.ga K "Listener") "some") (exV 0)) (ex1 gNeg (exC (.int 1)))) (exC (.int 0))) (exV 1)))) (sxSeq (sxIf (tx (ex2 gGt (ex2 gAdd (ex2 gIx (ex2 gIx (ex1S (fun S x => fldOf S x (He.ga K "Listener") "some") (exV 0)) (ex1 gNeg (exC (.int 1)))) (exC (.int 1))) (exV 2)) (exC (.int 2000)))) (sxX (He.ga K "BadRuns")) sxNil)
    (gxSub (ex1S (fun S x => fldOf S x (He.ga K "Listener") "some") (exV 0)) (ex1 gNeg (exC (.int 1))) gSetL (exTup (axC (exV 1) (axC (ex2 gAdd (ex2 gIx (ex2 gIx (ex1S (fun S x => fldOf S x (He.ga K "Listener") "some") (exV 0)) (ex1 gNeg (exC (.int 1)))) (exC (.int 1))) (exV 2)) axN))))) (sxSeq (sxIf (tx (ex2 gGe (exB gLen (axC (ex1S (fun S x => fldOf S x (He.ga K "Listener") "some") (exV 0)) axN)) (exC (.int 200)))) (sxX (He.ga K "BadRuns")) sxNil)
    (sxE (exM isList gAppend (ex1S (fun S x => fldOf S x (He.ga K "Listener") "some") (exV 0)) (axC (exTup (axC (exV 1) (axC (exV 2) axN))) axN)))))))
theorem sc_Listener_hear : FnScope ["self", "is_tone", "ticks"] ["self", "is_tone", "ticks"] (defScope (inClass (top 36) 1)) := ⟨rfl, rfl, rfl, by decide +kernel, rfl, by decide +kernel, by decide +kernel⟩
def F_Listener_hear (K : PySem.W.Frag) : Fx := runF 3 (sx_Listener_hear K)
theorem g_Listener_hear (c : Fs fa fn tf ex K mg base) : Good P w K mg base (TT tf K) 1 (He.ma K (He.ga K "Listener") "hear") ["self", "is_tone", "ticks"] (F_Listener_hear K) := by
  obtain ⟨fd, F⟩ := c.d.def_ 11 (d := d_Listener_hear) rfl
  refine fnG (st := (inClass (top 36) 1)) (N := ["self", "is_tone", "ticks"]) (s := sx_Listener_hear K) F sc_Listener_hear (fun _ _ _ _ _ _ us hl => match us, hl with | [_, _, _], _ => rfl) fun cdv A outer s0 H E hr => ?_
  exact (dss_cons (ds_if (DW.dt (dw_or (dt_not (dt_val (de_isi kit_bool rfl (c.free 3) rfl (c.free 14) rfl (de_var 1)))) (dw_or (dt_val (de_isi kit_bool rfl (c.free 3) rfl (c.free 14) rfl (de_var 2))) (dw_or1 (dt_not (dt_val (de_isi kit_int rfl (c.free 3) rfl (c.free 15) rfl (de_var 2)))))))) (dss_one (ds_raiseE rfl (tkO rfl rfl rfl rfl) (c.glo 27) (c.exc 28) rfl)) dss_nil) (dss_cons (ds_if (dt_not (dt_leLe de_int (de_var 2) (de_gint (c.int 29) rfl))) (dss_one (ds_raiseE rfl (tkO rfl rfl rfl rfl) (c.glo 27) (c.exc 28) rfl)) dss_nil) (dss_one (ds_if (DW.dt (dw_and (dt_ne hr.units (de_fld (c.cls 23) (c.noat 26) (de_var 0)) (de_lst da_nil)) (dw_and1 (dt_eq hr.units (de_ix (hu_of hr) (de_ix (hu_of hr) (de_fld (c.cls 23) (c.noat 26) (de_var 0)) (de_neg de_int)) de_int) (de_var 1))))) (dss_cons (ds_if (dt_gt (de_add (de_ix (hu_of hr) (de_ix (hu_of hr) (de_fld (c.cls 23) (c.noat 26) (de_var 0)) (de_neg de_int)) de_int) (de_var 2)) (de_gint (c.int 29) rfl)) (dss_one (ds_raiseE rfl (tkO rfl rfl rfl rfl) (c.glo 27) (c.exc 28) rfl)) dss_nil) (dss_one (ds_setL (de_tup (da_cons (de_var 1) (da_cons (de_add (de_ix (hu_of hr) (de_ix (hu_of hr) (de_fld (c.cls 23) (c.noat 26) (de_var 0)) (de_neg de_int)) de_int) (de_var 2)) da_nil))) (de_fld (c.cls 23) (c.noat 26) (de_var 0)) (de_neg de_int)))) (dss_cons (ds_if (dt_ge (de_len rfl (c.free 1) (da_cons (de_fld (c.cls 23) (c.noat 26) (de_var 0)) da_nil)) (de_gint (c.int 30) rfl)) (dss_one (ds_raiseE rfl (tkO rfl rfl rfl rfl) (c.glo 27) (c.exc 28) rfl)) dss_nil) (dss_one (ds_expr (de_append (de_fld (c.cls 23) (c.noat 26) (de_var 0)) (da_cons (de_tup (da_cons (de_var 1) (da_cons (de_var 2) da_nil))) da_nil)))))))))
/-- what Listener.runs_now does -/
def sx_Listener_runs_now (K : PySem.W.Frag) : Sx :=
    (sxR (exNB gListL (axC (ex1S (fun S x => fldOf S x (He.ga K "Listener") "some") (exV 0)) axN)))
theorem sc_Listener_runs_now : FnScope ["self"] ["self"] (defScope (inClass (top 36) 3)) := ⟨rfl, rfl, rfl, by decide +kernel, rfl, by decide +kernel, by decide +kernel⟩
def F_Listener_runs_now (K : PySem.W.Frag) : Fx := runF 1 (sx_Listener_runs_now K)
theorem g_Listener_runs_now (c : Fs fa fn tf ex K mg base) : Good P w K mg base (TT tf K) 1 (He.ma K (He.ga K "Listener") "runs_now") ["self"] (F_Listener_runs_now K) := by
  obtain ⟨fd, F⟩ := c.d.def_ 12 (d := d_Listener_runs_now) rfl
  refine fnG (st := (inClass (top 36) 3)) (N := ["self"]) (s := sx_Listener_runs_now K) F sc_Listener_runs_now (fun _ _ _ _ _ _ us hl => match us, hl with | [_], _ => rfl) fun cdv A outer s0 H E hr => ?_
  exact (dss_one (ds_ret (de_listcN rfl (c.free 31) (da_cons (de_fld (c.cls 23) (c.noat 26) (de_var 0)) da_nil))))
def lp_Listener_cut_0 (K : PySem.W.Frag) : Sx := (sxIf (txAnd (tx (ex2 gGt (exV 3) (exC (.int 0)))) (txAnd (txNot (txT (exV 4))) (tx (ex2 gGe (exV 5) (ex2 gMul (exV 1) (ex1S (fun S x => fldOf S x (He.ga K "Listener") "unit") (exV 0))))))) (sxA (ex2 gAdd (exV 3) (exC (.int 1))) (gN 2)) sxNil)
/-- what Listener.cut does -/
def sx_Listener_cut (K : PySem.W.Frag) : Sx :=
    (sxSeq (sxA (exC (.int 0)) (gN 2))
    (sxSeq (sxFor (ixEV (axC (ex1S (fun S x => fldOf S x (He.ga K "Listener") "some") (exV 0)) axN)) (gT 2 (gsC (gN 3) (gsC (gT 2 (gsC (gN 4) (gsC (gN 5) gsN))) gsN))) (lp_Listener_cut_0 K))
    (sxR (exV 2))))
theorem sc_Listener_cut : FnScope ["self", "units", "found", "at", "is_tone", "ticks"] ["self", "units"] (defScope (inClass (top 36) 6)) := ⟨rfl, rfl, rfl, by decide +kernel, rfl, by decide +kernel, by decide +kernel⟩
def F_Listener_cut (K : PySem.W.Frag) : Fx := runF 6 (sx_Listener_cut K)
theorem g_Listener_cut (c : Fs fa fn tf ex K mg base) : Good P w K mg base (TT tf K) 1 (He.ma K (He.ga K "Listener") "cut") ["self", "units"] (F_Listener_cut K) := by
  obtain ⟨fd, F⟩ := c.d.def_ 13 (d := d_Listener_cut) rfl
  refine fnG (st := (inClass (top 36) 6)) (N := ["self", "units", "found", "at", "is_tone", "ticks"]) (s := sx_Listener_cut K) F sc_Listener_cut (fun _ _ _ _ _ _ us hl => match us, hl with | [_, _], _ => rfl) fun cdv A outer s0 H E hr => ?_
  exact (dss_cons (ds_set 2 sc_Listener_cut.nd de_int) (dss_cons (ds_for (passes_of rfl) rfl (di_enumV rfl (c.free 32) (da_cons (de_fld (c.cls 23) (c.noat 26) (de_var 0)) da_nil)) (dg_tup rfl (dgs_cons (dg_name 3 sc_Listener_cut.nd) (dgs_cons (dg_tup rfl (dgs_cons (dg_name 4 sc_Listener_cut.nd) (dgs_cons (dg_name 5 sc_Listener_cut.nd) dgs_nil))) dgs_nil))) (dss_one (ds_if (DW.dt (dw_and (dt_gt (de_var 3) de_int) (dw_and (dt_not (dt_val (de_var 4))) (dw_and1 (dt_ge (de_var 5) (de_mul (de_var 1) (de_fld (c.cls 23) (c.noat 25) (de_var 0)))))))) (dss_one (ds_set 2 sc_Listener_cut.nd (de_add (de_var 3) de_int))) dss_nil))) (dss_one (ds_ret (de_var 2)))))
/-- what Listener.take does -/
def sx_Listener_take (K : PySem.W.Frag) : Sx :=
    (sxSeq (sxA (exMeth (He.ga K "Listener") "cut" 2 (F_Listener_cut K) (exV 0) (axC (exC (.int 5)) axN)) (gN 1))
    (sxSeq (sxA (exF 2 (F_row_in K) (axC (exSl (ex1S (fun S x => fldOf S x (He.ga K "Listener") "some") (exV 0)) oxN (oxS (exV 1))) (axC (ex1S (fun S x => fldOf S x (He.ga K "Listener") "unit") (exV 0)) axN))) (gN 2))
    (sxSeq (sxFld (He.ga K "Listener") "some" (exV 0) (exSlN (ex1S (fun S x => fldOf S x (He.ga K "Listener") "some") (exV 0)) (oxS (exV 1)) oxN))
    (sxR (exIf (tx (ex2 gNe (exV 2) (exC (.str "")))) (exSpN (exF 2 (F_text_of_row K) (axC (ex1S (fun S x => fldOf S x (He.ga K "Listener") "book") (exV 0)) (axC (exV 2) axN))) (exC (.str " "))) (exNew axN))))))
theorem sc_Listener_take : FnScope ["self", "many", "row"] ["self"] (defScope (inClass (top 36) 8)) := ⟨rfl, rfl, rfl, by decide +kernel, rfl, by decide +kernel, by decide +kernel⟩
def F_Listener_take (K : PySem.W.Frag) : Fx := runF 3 (sx_Listener_take K)
theorem g_Listener_take (c : Fs fa fn tf ex K mg base) : Good P w K mg base (TT tf K) 3 (He.ma K (He.ga K "Listener") "take") ["self"] (F_Listener_take K) := by
  obtain ⟨fd, F⟩ := c.d.def_ 14 (d := d_Listener_take) rfl
  refine fnG (st := (inClass (top 36) 8)) (N := ["self", "many", "row"]) (s := sx_Listener_take K) F sc_Listener_take (fun _ _ _ _ _ _ us hl => match us, hl with | [_], _ => rfl) fun cdv A outer s0 H E hr => ?_
  exact (dss_cons (ds_set 1 sc_Listener_take.nd (de_methG (g_Listener_cut c) hr (c.cls 23) (c.meth 33) (tkO rfl rfl rfl rfl) (by decide) (de_var 0) (da_cons de_int da_nil))) (dss_cons (ds_set 2 sc_Listener_take.nd (de_callG (g_row_in c) hr (c.glo 34) (tkO rfl rfl rfl rfl) (by decide) rfl (da_cons (de_slice (de_fld (c.cls 23) (c.noat 26) (de_var 0)) do_none (do_some (de_var 1))) (da_cons (de_fld (c.cls 23) (c.noat 25) (de_var 0)) da_nil)))) (dss_cons (ds_fld (c.cls 23) (c.noat 26) (de_sliceN (de_fld (c.cls 23) (c.noat 26) (de_var 0)) (do_some (de_var 1)) do_none) (de_var 0)) (dss_one (ds_ret (de_if (dt_ne hr.units (de_var 2) de_str) (de_splitN (de_callG (g_text_of_row c) hr (c.glo 35) (tkO rfl rfl rfl rfl) (by decide) rfl (da_cons (de_fld (c.cls 23) (c.noat 24) (de_var 0)) (da_cons (de_var 2) da_nil))) de_str) (de_new da_nil)))))))
/-- what Lesson.__init__ does -/
def sx_Lesson_init (K : PySem.W.Frag) : Sx :=
    (sxSeq (sxE (exF 1 (F_need_book K) (axC (exV 1) axN)))
    (sxSeq (sxIf (txOr (txNot (txT (exIsi "list" (exV 2)))) (txNot (tx (exCh gLe gLe (exC (.int 2)) (exB gLen (axC (exV 2) axN)) (exC (.int 20)))))) (sxX (He.ga K "BadSign")) sxNil)
    (sxSeq (sxIf (txOr (txNot (txT (exB gAll (axC (exLc (ixV (exV 2)) (gN 3) txY (exAnd (exIsi "str" (exV 3)) (ex2 gIn (exV 3) (exV 1))) [3]) axN)))) (tx (ex2 gNe (exLenSet (exV 2)) (exB gLen (axC (exV 2) axN))))) (sxX (He.ga K "BadSign")) sxNil)
    (sxSeq (sxFld (He.ga K "Lesson") "book" (exV 0) (exB (fun S xs => (gDict S xs).map .dct) (axC (exV 1) axN)))
    (sxSeq (sxFld (He.ga K "Lesson") "signs" (exV 0) (exB gList (axC (exV 2) axN)))
    (sxSeq (sxFld (He.ga K "Lesson") "rows" (exV 0) (exNew axN))
    (sxFld (He.ga K "Lesson") "taken" (exV 0) (exNew axN))))))))
theorem sc_Lesson_init : FnScope ["self", "book", "signs", "sign"] ["self", "book", "signs"] (defScope (inClass (top 25) 0)) := ⟨rfl, rfl, rfl, by decide +kernel, rfl, by decide +kernel, by decide +kernel⟩
def F_Lesson_init (K : PySem.W.Frag) : Fx := runF 4 (sx_Lesson_init K)
theorem g_Lesson_init (c : Fs fa fn tf ex K mg base) : Good P w K mg base (TT tf K) 4 (He.ma K (He.ga K "Lesson") "__init__") ["self", "book", "signs"] (F_Lesson_init K) := by
  obtain ⟨fd, F⟩ := c.d.def_ 15 (d := d_Lesson_init) rfl
  refine fnG (st := (inClass (top 25) 0)) (N := ["self", "book", "signs", "sign"]) (s := sx_Lesson_init K) F sc_Lesson_init (fun _ _ _ _ _ _ us hl => match us, hl with | [_, _, _], _ => rfl) fun cdv A outer s0 H E hr => ?_
  exact (dss_cons (ds_expr (de_callG (g_need_book c) hr (c.glo 21) (tkO rfl rfl rfl rfl) (by decide) rfl (da_cons (de_var 1) da_nil))) (dss_cons (ds_if (DW.dt (dw_or (dt_not (dt_val (de_isi kit_list rfl (c.free 3) rfl (c.free 31) rfl (de_var 2)))) (dw_or1 (dt_not (dt_leLe (de_gint (c.int 36) rfl) (de_len rfl (c.free 1) (da_cons (de_var 2) da_nil)) (de_gint (c.int 37) rfl)))))) (dss_one (ds_raiseE rfl (tkO rfl rfl rfl rfl) (c.glo 38) (c.exc 39) rfl)) dss_nil) (dss_cons (ds_if (DW.dt (dw_or (dt_not (dt_val (de_all rfl rfl (c.free 0) (da_cons (de_lc rfl sc_Lesson_init.nd (di_val (de_var 2)) (own := [("sign", 3)]) (blkOk_by (by kernel_rfl)) (fun _ _ _ _ _ => (dg_name 3 sc_Lesson_init.nd)) (fun _ _ _ _ _ => dts_nil) (fun _ _ _ _ _ => (de_and (de_isi kit_str rfl (c.free 3) rfl (c.free 4) rfl (de_var 3)) (de_one (de_in (hu_of hr) (de_var 3) (de_var 1)))))) da_nil)))) (dw_or1 (dt_ne hr.units (de_lenSet rfl rfl (c.free 1) rfl (c.free 7) (de_var 2)) (de_len rfl (c.free 1) (da_cons (de_var 2) da_nil)))))) (dss_one (ds_raiseE rfl (tkO rfl rfl rfl rfl) (c.glo 38) (c.exc 39) rfl)) dss_nil) (dss_cons (ds_fld (c.cls 40) (c.noat 41) (de_dict rfl rfl (c.free 5) (da_cons (de_var 1) da_nil)) (de_var 0)) (dss_cons (ds_fld (c.cls 40) (c.noat 42) (de_listc rfl (c.free 31) (da_cons (de_var 2) da_nil)) (de_var 0)) (dss_cons (ds_fld (c.cls 40) (c.noat 43) (de_new da_nil) (de_var 0)) (dss_one (ds_fld (c.cls 40) (c.noat 44) (de_new da_nil) (de_var 0)))))))))
def lp_Lesson_score_of_0 (K : PySem.W.Frag) : Sx := (sxIf (tx (ex2 gEq (exV 4) (exV 2))) (sxA (exB gMax2 (axC (exC (.int 0)) (axC (ex2 gAdd (exV 3) (exIf (txT (exV 5)) (exC (.int 1)) (ex1 gNeg (exC (.int 1))))) axN))) (gN 3)) sxNil)
/-- what Lesson.score_of does -/
def sx_Lesson_score_of (K : PySem.W.Frag) : Sx :=
    (sxSeq (sxA (exC (.int 0)) (gN 3))
    (sxSeq (sxFor (ixV (exV 1)) (gT 2 (gsC (gN 4) (gsC (gN 5) gsN))) (lp_Lesson_score_of_0 K))
    (sxR (exV 3))))
theorem sc_Lesson_score_of : FnScope ["self", "rows", "sign", "found", "own", "is_right"] ["self", "rows", "sign"] (defScope (inClass (top 25) 1)) := ⟨rfl, rfl, rfl, by decide +kernel, rfl, by decide +kernel, by decide +kernel⟩
def F_Lesson_score_of (K : PySem.W.Frag) : Fx := runF 6 (sx_Lesson_score_of K)
theorem g_Lesson_score_of (c : Fs fa fn tf ex K mg base) : Good P w K mg base (TT tf K) 1 (He.ma K (He.ga K "Lesson") "score_of") ["self", "rows", "sign"] (F_Lesson_score_of K) := by
  obtain ⟨fd, F⟩ := c.d.def_ 16 (d := d_Lesson_score_of) rfl
  refine fnG (st := (inClass (top 25) 1)) (N := ["self", "rows", "sign", "found", "own", "is_right"]) (s := sx_Lesson_score_of K) F sc_Lesson_score_of (fun _ _ _ _ _ _ us hl => match us, hl with | [_, _, _], _ => rfl) fun cdv A outer s0 H E hr => ?_
  exact (dss_cons (ds_set 3 sc_Lesson_score_of.nd de_int) (dss_cons (ds_for (passes_of rfl) rfl (di_val (de_var 1)) (dg_tup rfl (dgs_cons (dg_name 4 sc_Lesson_score_of.nd) (dgs_cons (dg_name 5 sc_Lesson_score_of.nd) dgs_nil))) (dss_one (ds_if (dt_eq hr.units (de_var 4) (de_var 2)) (dss_one (ds_set 3 sc_Lesson_score_of.nd (de_max2 rfl rfl (c.free 45) (da_cons de_int (da_cons (de_add (de_var 3) (de_if (dt_val (de_var 5)) de_int (de_neg de_int))) da_nil))))) dss_nil))) (dss_one (ds_ret (de_var 3)))))
def el_Lesson_many_known_0 (K : PySem.W.Frag) : Ex := (ex2 gGe (exMeth (He.ga K "Lesson") "score_of" 3 (F_Lesson_score_of K) (exV 0) (axC (exV 3) (axC (exV 4) axN))) (exC (.int 3)))
def lp_Lesson_many_known_1 (K : PySem.W.Frag) : Sx := (sxSeq (sxA (exSl (ex1S (fun S x => fldOf S x (He.ga K "Lesson") "rows") (exV 0)) oxN (oxS (exV 2))) (gN 3))
    (sxIf (txAnd (tx (ex2 gLt (exV 1) (exB gLen (axC (ex1S (fun S x => fldOf S x (He.ga K "Lesson") "signs") (exV 0)) axN)))) (txT (exB gAll (axC (exLc (ixV (exSl (ex1S (fun S x => fldOf S x (He.ga K "Lesson") "signs") (exV 0)) oxN (oxS (exV 1)))) (gN 4) txY (el_Lesson_many_known_0 K) [4]) axN)))) (sxA (ex2 gAdd (exV 1) (exC (.int 1))) (gN 1)) sxNil))
/-- what Lesson.many_known does -/
def sx_Lesson_many_known (K : PySem.W.Frag) : Sx :=
    (sxSeq (sxA (exC (.int 2)) (gN 1))
    (sxSeq (sxFor (ixR1 (axC (ex2 gAdd (exB gLen (axC (ex1S (fun S x => fldOf S x (He.ga K "Lesson") "rows") (exV 0)) axN)) (exC (.int 1))) axN)) (gN 2) (lp_Lesson_many_known_1 K))
    (sxR (exV 1))))
theorem sc_Lesson_many_known : FnScope ["self", "found", "at", "some", "own"] ["self"] (defScope (inClass (top 25) 2)) := ⟨rfl, rfl, rfl, by decide +kernel, rfl, by decide +kernel, by decide +kernel⟩
def F_Lesson_many_known (K : PySem.W.Frag) : Fx := runF 5 (sx_Lesson_many_known K)
theorem g_Lesson_many_known (c : Fs fa fn tf ex K mg base) : Good P w K mg base (TT tf K) 2 (He.ma K (He.ga K "Lesson") "many_known") ["self"] (F_Lesson_many_known K) := by
  obtain ⟨fd, F⟩ := c.d.def_ 17 (d := d_Lesson_many_known) rfl
  refine fnG (st := (inClass (top 25) 2)) (N := ["self", "found", "at", "some", "own"]) (s := sx_Lesson_many_known K) F sc_Lesson_many_known (fun _ _ _ _ _ _ us hl => match us, hl with | [_], _ => rfl) fun cdv A outer s0 H E hr => ?_
  exact (dss_cons (ds_set 1 sc_Lesson_many_known.nd (de_gint (c.int 36) rfl)) (dss_cons (ds_for (passes_of rfl) rfl (di_range1 rfl (c.free 46) (da_cons (de_add (de_len rfl (c.free 1) (da_cons (de_fld (c.cls 40) (c.noat 43) (de_var 0)) da_nil)) de_int) da_nil)) (dg_name 2 sc_Lesson_many_known.nd) (dss_cons (ds_set 3 sc_Lesson_many_known.nd (de_slice (de_fld (c.cls 40) (c.noat 43) (de_var 0)) do_none (do_some (de_var 2)))) (dss_one (ds_if (DW.dt (dw_and (dt_lt (de_var 1) (de_len rfl (c.free 1) (da_cons (de_fld (c.cls 40) (c.noat 42) (de_var 0)) da_nil))) (dw_and1 (dt_val (de_all rfl rfl (c.free 0) (da_cons (de_lc rfl sc_Lesson_many_known.nd (di_val (de_slice (de_fld (c.cls 40) (c.noat 42) (de_var 0)) do_none (do_some (de_var 1)))) (own := [("own", 4)]) (blkOk_by (by kernel_rfl)) (fun _ _ _ _ _ => (dg_name 4 sc_Lesson_many_known.nd)) (fun _ _ _ _ _ => dts_nil) (fun _ _ _ _ _ => (de_ge (de_methG (g_Lesson_score_of c) hr (c.cls 40) (c.meth 47) tk0 (by decide) (de_var 0) (da_cons (de_var 3) (da_cons (de_var 4) da_nil))) (de_gint (c.int 48) rfl)))) da_nil)))))) (dss_one (ds_set 1 sc_Lesson_many_known.nd (de_add (de_var 1) de_int))) dss_nil)))) (dss_one (ds_ret (de_var 1)))))
/-- what Lesson.known does -/
def sx_Lesson_known (K : PySem.W.Frag) : Sx :=
    (sxR (exSl (ex1S (fun S x => fldOf S x (He.ga K "Lesson") "signs") (exV 0)) oxN (oxS (exMeth0 (He.ga K "Lesson") "many_known" (F_Lesson_many_known K) (exV 0)))))
theorem sc_Lesson_known : FnScope ["self"] ["self"] (defScope (inClass (top 25) 3)) := ⟨rfl, rfl, rfl, by decide +kernel, rfl, by decide +kernel, by decide +kernel⟩
def F_Lesson_known (K : PySem.W.Frag) : Fx := runF 1 (sx_Lesson_known K)
theorem g_Lesson_known (c : Fs fa fn tf ex K mg base) : Good P w K mg base (TT tf K) 3 (He.ma K (He.ga K "Lesson") "known") ["self"] (F_Lesson_known K) := by
  obtain ⟨fd, F⟩ := c.d.def_ 18 (d := d_Lesson_known) rfl
  refine fnG (st := (inClass (top 25) 3)) (N := ["self"]) (s := sx_Lesson_known K) F sc_Lesson_known (fun _ _ _ _ _ _ us hl => match us, hl with | [_], _ => rfl) fun cdv A outer s0 H E hr => ?_
  exact (dss_one (ds_ret (de_slice (de_fld (c.cls 40) (c.noat 42) (de_var 0)) do_none (do_some (de_meth0G (g_Lesson_many_known c) hr (c.cls 40) (c.meth 49) (tkO rfl rfl rfl rfl) (by decide) (de_var 0))))))
/-- what Lesson.answer does -/
def sx_Lesson_answer (K : PySem.W.Frag) : Sx :=
    (sxSeq (sxIf (txNot (txT (exF 1 (F_is_code K) (axC (exV 1) axN)))) (sxX (He.ga K "BadCode")) sxNil)
    (sxSeq sxNo
    (sxSeq sxNo
    (sxSeq sxNo
    (sxSeq sxNo
    sxNo)))))
theorem sc_Lesson_answer : FnScope ["self", "code", "sign", "is_right"] ["self", "code"] (defScope (inClass (top 25) 6)) := ⟨rfl, rfl, rfl, by decide +kernel, rfl, by decide +kernel, by decide +kernel⟩
def F_Lesson_answer (K : PySem.W.Frag) : Fx := runF 4 (sx_Lesson_answer K)
theorem g_Lesson_answer (c : Fs fa fn tf ex K mg base) : Good P w K mg base (TT tf K) 2 (He.ma K (He.ga K "Lesson") "answer") ["self", "code"] (F_Lesson_answer K) := by
  obtain ⟨fd, F⟩ := c.d.def_ 19 (d := d_Lesson_answer) rfl
  refine fnG (st := (inClass (top 25) 6)) (N := ["self", "code", "sign", "is_right"]) (s := sx_Lesson_answer K) F sc_Lesson_answer (fun _ _ _ _ _ _ us hl => match us, hl with | [_, _], _ => rfl) fun cdv A outer s0 H E hr => ?_
  exact (dss_cons (ds_if (dt_not (dt_val (de_callG (g_is_code c) hr (c.glo 8) (tkO rfl rfl rfl rfl) (by decide) rfl (da_cons (de_var 1) da_nil)))) (dss_one (ds_raiseE rfl (tkO rfl rfl rfl rfl) (c.glo 50) (c.exc 51) rfl)) dss_nil) (dss_cons ds_never (dss_cons ds_never (dss_cons ds_never (dss_cons ds_never (dss_one ds_never))))))
/-- what Lesson.redo does -/
def sx_Lesson_redo (K : PySem.W.Frag) : Sx :=
    (sxSeq (sxIf (tx (ex2 gEq (ex1S (fun S x => fldOf S x (He.ga K "Lesson") "taken") (exV 0)) (exLst axN))) (sxX (He.ga K "Nothing")) sxNil)
    (sxE (exM isList gAppend (ex1S (fun S x => fldOf S x (He.ga K "Lesson") "rows") (exV 0)) (axC (exM0 isList gPop (ex1S (fun S x => fldOf S x (He.ga K "Lesson") "taken") (exV 0))) axN))))
theorem sc_Lesson_redo : FnScope ["self"] ["self"] (defScope (inClass (top 25) 8)) := ⟨rfl, rfl, rfl, by decide +kernel, rfl, by decide +kernel, by decide +kernel⟩
def F_Lesson_redo (K : PySem.W.Frag) : Fx := runF 1 (sx_Lesson_redo K)
theorem g_Lesson_redo (c : Fs fa fn tf ex K mg base) : Good P w K mg base (TT tf K) 1 (He.ma K (He.ga K "Lesson") "redo") ["self"] (F_Lesson_redo K) := by
  obtain ⟨fd, F⟩ := c.d.def_ 20 (d := d_Lesson_redo) rfl
  refine fnG (st := (inClass (top 25) 8)) (N := ["self"]) (s := sx_Lesson_redo K) F sc_Lesson_redo (fun _ _ _ _ _ _ us hl => match us, hl with | [_], _ => rfl) fun cdv A outer s0 H E hr => ?_
  exact (dss_cons (ds_if (dt_eq hr.units (de_fld (c.cls 40) (c.noat 44) (de_var 0)) (de_lst da_nil)) (dss_one (ds_raiseE rfl (tkO rfl rfl rfl rfl) (c.glo 52) (c.exc 53) rfl)) dss_nil) (dss_one (ds_expr (de_append (de_fld (c.cls 40) (c.noat 43) (de_var 0)) (da_cons (de_pop (de_fld (c.cls 40) (c.noat 44) (de_var 0))) da_nil)))))
/-- what Lesson.score does -/
def sx_Lesson_score (K : PySem.W.Frag) : Sx :=
    (sxSeq (sxIf (txOr (txNot (txT (exIsi "str" (exV 1)))) (tx (ex2 gNotIn (exV 1) (ex1S (fun S x => fldOf S x (He.ga K "Lesson") "signs") (exV 0))))) (sxX (He.ga K "BadSign")) sxNil)
    (sxR (exMeth (He.ga K "Lesson") "score_of" 3 (F_Lesson_score_of K) (exV 0) (axC (ex1S (fun S x => fldOf S x (He.ga K "Lesson") "rows") (exV 0)) (axC (exV 1) axN)))))
theorem sc_Lesson_score : FnScope ["self", "sign"] ["self", "sign"] (defScope (inClass (top 25) 9)) := ⟨rfl, rfl, rfl, by decide +kernel, rfl, by decide +kernel, by decide +kernel⟩
def F_Lesson_score (K : PySem.W.Frag) : Fx := runF 2 (sx_Lesson_score K)
theorem g_Lesson_score (c : Fs fa fn tf ex K mg base) : Good P w K mg base (TT tf K) 2 (He.ma K (He.ga K "Lesson") "score") ["self", "sign"] (F_Lesson_score K) := by
  obtain ⟨fd, F⟩ := c.d.def_ 21 (d := d_Lesson_score) rfl
  refine fnG (st := (inClass (top 25) 9)) (N := ["self", "sign"]) (s := sx_Lesson_score K) F sc_Lesson_score (fun _ _ _ _ _ _ us hl => match us, hl with | [_, _], _ => rfl) fun cdv A outer s0 H E hr => ?_
  exact (dss_cons (ds_if (DW.dt (dw_or (dt_not (dt_val (de_isi kit_str rfl (c.free 3) rfl (c.free 4) rfl (de_var 1)))) (dw_or1 (dt_notIn (hu_of hr) (de_var 1) (de_fld (c.cls 40) (c.noat 42) (de_var 0)))))) (dss_one (ds_raiseE rfl (tkO rfl rfl rfl rfl) (c.glo 38) (c.exc 39) rfl)) dss_nil) (dss_one (ds_ret (de_methG (g_Lesson_score_of c) hr (c.cls 40) (c.meth 47) (tkO rfl rfl rfl rfl) (by decide) (de_var 0) (da_cons (de_fld (c.cls 40) (c.noat 43) (de_var 0)) (da_cons (de_var 1) da_nil))))))
/-- what Lesson.answers does -/
def sx_Lesson_answers (K : PySem.W.Frag) : Sx :=
    (sxR (exB gList (axC (ex1S (fun S x => fldOf S x (He.ga K "Lesson") "rows") (exV 0)) axN)))
theorem sc_Lesson_answers : FnScope ["self"] ["self"] (defScope (inClass (top 25) 10)) := ⟨rfl, rfl, rfl, by decide +kernel, rfl, by decide +kernel, by decide +kernel⟩
def F_Lesson_answers (K : PySem.W.Frag) : Fx := runF 1 (sx_Lesson_answers K)
theorem g_Lesson_answers (c : Fs fa fn tf ex K mg base) : Good P w K mg base (TT tf K) 1 (He.ma K (He.ga K "Lesson") "answers") ["self"] (F_Lesson_answers K) := by
  obtain ⟨fd, F⟩ := c.d.def_ 22 (d := d_Lesson_answers) rfl
  refine fnG (st := (inClass (top 25) 10)) (N := ["self"]) (s := sx_Lesson_answers K) F sc_Lesson_answers (fun _ _ _ _ _ _ us hl => match us, hl with | [_], _ => rfl) fun cdv A outer s0 H E hr => ?_
  exact (dss_one (ds_ret (de_listc rfl (c.free 31) (da_cons (de_fld (c.cls 40) (c.noat 43) (de_var 0)) da_nil))))
/-- what _law_cell does -/
def sx_law_cell (K : PySem.W.Frag) : Sx :=
    (sxSeq (sxIf (tx (ex2 gEq (exV 0) (exLst axN))) (sxR (ex2 gMul (exV 1) (exC (.int 7919)))) sxNil)
    (sxR (ex2 gAdd (ex2 gIx (exV 0) (ex2 gMod (exV 1) (exB gLen (axC (exV 0) axN)))) (ex2 gMul (ex2 gFdiv (exV 1) (exB gLen (axC (exV 0) axN))) (exC (.int 104729))))))
theorem sc_law_cell : FnScope ["_law_script", "_law_k"] ["_law_script", "_law_k"] (defScope (top 38)) := ⟨rfl, rfl, rfl, by decide +kernel, rfl, by decide +kernel, by decide +kernel⟩
def F_law_cell (K : PySem.W.Frag) : Fx := runF 2 (sx_law_cell K)
theorem g_law_cell (c : Fs fa fn tf ex K mg base) : Good P w K mg base (TT tf K) 1 (He.ga K "_law_cell") ["_law_script", "_law_k"] (F_law_cell K) := by
  obtain ⟨fd, F⟩ := c.d.def_ 23 (d := d_law_cell) rfl
  refine fnG (st := (top 38)) (N := ["_law_script", "_law_k"]) (s := sx_law_cell K) F sc_law_cell (fun _ _ _ _ _ _ us hl => match us, hl with | [_, _], _ => rfl) fun cdv A outer s0 H E hr => ?_
  exact (dss_cons (ds_if (dt_eq hr.units (de_var 0) (de_lst da_nil)) (dss_one (ds_ret (de_mul (de_var 1) de_int))) dss_nil) (dss_one (ds_ret (de_add (de_ix (hu_of hr) (de_var 0) (de_mod (de_var 1) (de_len rfl (c.free 1) (da_cons (de_var 0) da_nil)))) (de_mul (de_fdiv (de_var 1) (de_len rfl (c.free 1) (da_cons (de_var 0) da_nil))) de_int)))))
/-- what _law_drawn does -/
def sx_law_drawn (K : PySem.W.Frag) : Sx :=
    (sxSeq (sxA (ex2 gMod (ex2 gAdd (ex2 gMul (exV 0) (exC (.int 6364136223846793005))) (ex2 gMul (ex2 gAdd (exV 1) (exC (.int 1))) (exC (.int 1442695040888963407)))) (exC (.int 340282366920938463463374607431768211507))) (gN 2))
    (sxSeq (sxA (ex2 gMod (ex2 gMul (exV 2) (exV 2)) (exC (.int 340282366920938463463374607431768211297))) (gN 2))
    (sxSeq (sxA (ex2 gMul (ex2 gMul (ex2 gAdd (ex2 gMod (exV 2) (exC (.int 18446744073709551557))) (exC (.int 1))) (ex2 gAdd (ex2 gFdiv (exV 2) (exC (.int 18446744073709551557))) (exC (.int 1)))) (exV 2)) (gN 2))
    (sxR (ex2 gMod (exV 2) (exC (.int 340282366920938463463374607431768211507)))))))
theorem sc_law_drawn : FnScope ["_law_cell_here", "_law_k", "_law_more"] ["_law_cell_here", "_law_k"] (defScope (top 39)) := ⟨rfl, rfl, rfl, by decide +kernel, rfl, by decide +kernel, by decide +kernel⟩
def F_law_drawn (K : PySem.W.Frag) : Fx := runF 3 (sx_law_drawn K)
theorem g_law_drawn (c : Fs fa fn tf ex K mg base) : Good P w K mg base (TT tf K) 1 (He.ga K "_law_drawn") ["_law_cell_here", "_law_k"] (F_law_drawn K) := by
  obtain ⟨fd, F⟩ := c.d.def_ 24 (d := d_law_drawn) rfl
  refine fnG (st := (top 39)) (N := ["_law_cell_here", "_law_k", "_law_more"]) (s := sx_law_drawn K) F sc_law_drawn (fun _ _ _ _ _ _ us hl => match us, hl with | [_, _], _ => rfl) fun cdv A outer s0 H E hr => ?_
  exact (dss_cons (ds_set 2 sc_law_drawn.nd (de_mod (de_add (de_mul (de_var 0) de_int) (de_mul (de_add (de_var 1) de_int) de_int)) de_int)) (dss_cons (ds_set 2 sc_law_drawn.nd (de_mod (de_mul (de_var 2) (de_var 2)) de_int)) (dss_cons (ds_set 2 sc_law_drawn.nd (de_mul (de_mul (de_add (de_mod (de_var 2) de_int) de_int) (de_add (de_fdiv (de_var 2) de_int) de_int)) (de_var 2))) (dss_one (ds_ret (de_mod (de_var 2) de_int))))))
/-- what _law_word does -/
def sx_law_word (K : PySem.W.Frag) (ea eC : Addr) : Sx :=
    (sxSeq (sxA (exLst (axC (exIsxO ea eC (PySem.W.kitOne K (.ref eC) (.ref (He.ga K "BadBook"))) (exV 0)) (axC (exIsxO ea eC (PySem.W.kitOne K (.ref eC) (.ref (He.ga K "BadSign"))) (exV 0)) (axC (exIsxO ea eC (PySem.W.kitOne K (.ref eC) (.ref (He.ga K "BadCode"))) (exV 0)) (axC (exIsxO ea eC (PySem.W.kitOne K (.ref eC) (.ref (He.ga K "BadText"))) (exV 0)) axN))))) (gN 1))
    (sxSeq (sxA (ex2 gAdd (exV 1) (exLst (axC (exIsxO ea eC (PySem.W.kitOne K (.ref eC) (.ref (He.ga K "BadNumber"))) (exV 0)) (axC (exIsxO ea eC (PySem.W.kitOne K (.ref eC) (.ref (He.ga K "BadRuns"))) (exV 0)) (axC (exIsxO ea eC (PySem.W.kitOne K (.ref eC) (.ref (He.ga K "BadManner"))) (exV 0)) (axC (exIsxO ea eC (PySem.W.kitOne K (.ref eC) (.ref (He.ga K "BadHand"))) (exV 0)) axN)))))) (gN 1))
    (sxSeq (sxA (ex2 gAdd (exV 1) (exLst (axC (exIsxO ea eC (PySem.W.kitOne K (.ref eC) (.ref (He.ga K "Nothing"))) (exV 0)) axN))) (gN 1))
    (sxSeq (sxIf (txOr (tx (ex2 gNe (exB gSum (axC (exLc (ixL (exV 1)) (gN 3) txY (exB gInt (axC (exV 3) axN)) [3]) axN)) (exC (.int 1)))) (txNot (txT (exIsxO ea eC (PySem.W.kitOne K (.ref eC) (.type "ValueError")) (exV 0))))) (sxR (exC (.str "other"))) sxNil)
    (sxSeq (sxA (exLst (axC (exC (.str "BadBook")) (axC (exC (.str "BadSign")) (axC (exC (.str "BadCode")) (axC (exC (.str "BadText")) (axC (exC (.str "BadNumber")) (axC (exC (.str "BadRuns")) (axC (exC (.str "BadManner")) (axC (exC (.str "BadHand")) axN))))))))) (gN 2))
    (sxR (ex2 gIx (ex2 gAdd (exV 2) (exLst (axC (exC (.str "Nothing")) axN))) (exM isList gIndex (exV 1) (axC (exC (.bl true)) axN)))))))))
theorem sc_law_word : FnScope ["_law_e", "_law_flags", "_law_words_here", "_law_flag"] ["_law_e"] (defScope (top 40)) := ⟨rfl, rfl, rfl, by decide +kernel, rfl, by decide +kernel, by decide +kernel⟩
def F_law_word (K : PySem.W.Frag) (ea eC : Addr) : Fx := runF 4 (sx_law_word K ea eC)
theorem g_law_word (c : Fs fa fn tf ex K mg base) : GoodW P w K mg base (TT tf K) 1 (He.ga K "_law_word") ["_law_e"] (F_law_word K) := by
  obtain ⟨fd, F⟩ := c.d.def_ 25 (d := d_law_word) rfl
  exact fnGW (st := (top 40)) (N := ["_law_e", "_law_flags", "_law_words_here", "_law_flag"]) (s := fun ea eC => sx_law_word K ea eC) F sc_law_word (fun _ _ _ _ _ _ us hl => match us, hl with | [_], _ => rfl) fun ea eC cdv A outer s0 H E oe hxc hot hr => (dss_cons (ds_set 1 sc_law_word.nd (de_lst (da_cons (de_isxO hot hxc rfl (c.free 3) (c.glo 10) (de_var 0)) (da_cons (de_isxO hot hxc rfl (c.free 3) (c.glo 38) (de_var 0)) (da_cons (de_isxO hot hxc rfl (c.free 3) (c.glo 50) (de_var 0)) (da_cons (de_isxO hot hxc rfl (c.free 3) (c.glo 54) (de_var 0)) da_nil)))))) (dss_cons (ds_set 1 sc_law_word.nd (de_add (de_var 1) (de_lst (da_cons (de_isxO hot hxc rfl (c.free 3) (c.glo 18) (de_var 0)) (da_cons (de_isxO hot hxc rfl (c.free 3) (c.glo 27) (de_var 0)) (da_cons (de_isxO hot hxc rfl (c.free 3) (c.glo 56) (de_var 0)) (da_cons (de_isxO hot hxc rfl (c.free 3) (c.glo 55) (de_var 0)) da_nil))))))) (dss_cons (ds_set 1 sc_law_word.nd (de_add (de_var 1) (de_lst (da_cons (de_isxO hot hxc rfl (c.free 3) (c.glo 52) (de_var 0)) da_nil)))) (dss_cons (ds_if (DW.dt (dw_or (dt_ne (unitsH hr) (de_sumH hot rfl (c.free 58) (da_cons (de_lcH hot sc_law_word.nd (de_var 1) (own := [("_law_flag", 3)]) (blkOk_by (by kernel_rfl)) (fun _ _ _ _ _ => (dg_name 3 sc_law_word.nd)) (fun _ _ _ _ _ => dts_nil) (fun _ _ _ _ _ => (de_intc rfl (c.free 15) (da_cons (de_var 3) da_nil)))) da_nil)) de_int) (dw_or1 (dt_not (dt_val (de_isxTO hot hxc rfl (c.free 3) rfl (c.free 57) rfl (de_var 0))))))) (dss_one (ds_ret de_str)) dss_nil) (dss_cons (ds_set 2 sc_law_word.nd (de_lst (da_cons de_str (da_cons de_str (da_cons de_str (da_cons de_str (da_cons de_str (da_cons de_str (da_cons de_str (da_cons de_str da_nil)))))))))) (dss_one (ds_ret (de_ix (huH hr) (de_add (de_var 2) (de_lst (da_cons de_str da_nil))) (de_index (de_var 1) (da_cons de_bl da_nil))))))))))
theorem sc_law_told : FnScope ["_law_deed", "_law_e"] ["_law_deed"] (defScope (top 41)) := ⟨rfl, rfl, rfl, by decide +kernel, rfl, by decide +kernel, by decide +kernel⟩
def wz (K : PySem.W.Frag) : Addr → Option Str := wordsZ K xnames
theorem words_ok (c : Fs fa fn tf ex K mg base) : WordsOk K (He.ga K "KeysError") (F_law_word K) (wz K) := by
  intro C z hz
  obtain ⟨hm, rfl⟩ := wordsZ_some hz
  obtain ⟨h1, h2, h3, h4⟩ := xcsB_ok (ex_xs c) hm
  refine ⟨h1, h2, fun a S => ?_⟩
  have k1 := h4 "BadBook" (by decide +kernel)
  have k2 := h4 "BadSign" (by decide +kernel)
  have k3 := h4 "BadCode" (by decide +kernel)
  have k4 := h4 "BadText" (by decide +kernel)
  have k5 := h4 "BadNumber" (by decide +kernel)
  have k6 := h4 "BadRuns" (by decide +kernel)
  have k7 := h4 "BadManner" (by decide +kernel)
  have k8 := h4 "BadHand" (by decide +kernel)
  have k9 := h4 "Nothing" (by decide +kernel)
  clear hz h1 h2 h4
  have key : ∀ b1 b2 b3 b4 b5 b6 b7 b8 b9 : Bool, (z == "BadBook") = b1 → (z == "BadSign") = b2 → (z == "BadCode") = b3 → (z == "BadText") = b4 → (z == "BadNumber") = b5 → (z == "BadRuns") = b6 → (z == "BadManner") = b7 → (z == "BadHand") = b8 → (z == "Nothing") = b9 →
      (exLc (ixL (exV 1)) (gN 3) txY (exB gInt (axC (exV 3) axN)) [3]) [some (.xc a (He.ga K z)), some (.lst [.bl b1, .bl b2, .bl b3, .bl b4, .bl b5, .bl b6, .bl b7, .bl b8, .bl b9]), none, none] S = .ok (.lst [.int (if b1 then 1 else 0), .int (if b2 then 1 else 0), .int (if b3 then 1 else 0), .int (if b4 then 1 else 0), .int (if b5 then 1 else 0), .int (if b6 then 1 else 0), .int (if b7 then 1 else 0), .int (if b8 then 1 else 0), .int (if b9 then 1 else 0)], S) := by
    intros
    simp [exLc, ixL, wipeD, lcL, ckB, show (0 : Nat) < sizeLine by decide, show (1 : Nat) < sizeLine by decide, show (2 : Nat) < sizeLine by decide, show (3 : Nat) < sizeLine by decide, show (4 : Nat) < sizeLine by decide, show (5 : Nat) < sizeLine by decide, show (6 : Nat) < sizeLine by decide, show (7 : Nat) < sizeLine by decide, show (8 : Nat) < sizeLine by decide]
  have z4 : (4 : Nat) ≤ sizeLine := by decide
  have z8 : (8 : Nat) ≤ sizeLine := by decide
  have z9 : (9 : Nat) ≤ sizeLine := by decide
  simp only [xnames, List.mem_cons, List.not_mem_nil, or_false] at hm
  rcases hm with rfl | rfl | rfl | rfl | rfl | rfl | rfl | rfl | rfl
  · have ky := key _ _ _ _ _ _ _ _ _ rfl rfl rfl rfl rfl rfl rfl rfl rfl
    have gs : gSum S [.lst [.int 1, .int 0, .int 0, .int 0, .int 0, .int 0, .int 0, .int 0, .int 0]] = some (.int 1) := rfl
    have il : isList S (.lst [.bl true, .bl false, .bl false, .bl false, .bl false, .bl false, .bl false, .bl false, .bl false]) = true := rfl
    have gi : gIndex S (.lst [.bl true, .bl false, .bl false, .bl false, .bl false, .bl false, .bl false, .bl false, .bl false]) [.bl true] = some (.int 0, S) := rfl
    have gx : gIx S (.lst [.str "BadBook", .str "BadSign", .str "BadCode", .str "BadText", .str "BadNumber", .str "BadRuns", .str "BadManner", .str "BadHand", .str "Nothing"]) (.int 0) = some (.str "BadBook") := rfl
    revert k1 k2 k3 k4 k5 k6 k7 k8 k9 ky
    simp only [show (("BadBook" : Str) == "BadBook") = true by decide, show (("BadBook" : Str) == "BadSign") = false by decide, show (("BadBook" : Str) == "BadCode") = false by decide, show (("BadBook" : Str) == "BadText") = false by decide, show (("BadBook" : Str) == "BadNumber") = false by decide, show (("BadBook" : Str) == "BadRuns") = false by decide, show (("BadBook" : Str) == "BadManner") = false by decide, show (("BadBook" : Str) == "BadHand") = false by decide, show (("BadBook" : Str) == "Nothing") = false by decide]
    intro k1 k2 k3 k4 k5 k6 k7 k8 k9 ky
    simp at ky
    simp only [op_ix_l] at gx
    simp [F_law_word, sx_law_word, k1, k2, k3, k4, k5, k6, k7, k8, k9, h3, z4, z8, z9, op_cat_l, ky, gs, il, gi, gx]
  · have ky := key _ _ _ _ _ _ _ _ _ rfl rfl rfl rfl rfl rfl rfl rfl rfl
    have gs : gSum S [.lst [.int 0, .int 1, .int 0, .int 0, .int 0, .int 0, .int 0, .int 0, .int 0]] = some (.int 1) := rfl
    have il : isList S (.lst [.bl false, .bl true, .bl false, .bl false, .bl false, .bl false, .bl false, .bl false, .bl false]) = true := rfl
    have gi : gIndex S (.lst [.bl false, .bl true, .bl false, .bl false, .bl false, .bl false, .bl false, .bl false, .bl false]) [.bl true] = some (.int 1, S) := rfl
    have gx : gIx S (.lst [.str "BadBook", .str "BadSign", .str "BadCode", .str "BadText", .str "BadNumber", .str "BadRuns", .str "BadManner", .str "BadHand", .str "Nothing"]) (.int 1) = some (.str "BadSign") := rfl
    revert k1 k2 k3 k4 k5 k6 k7 k8 k9 ky
    simp only [show (("BadSign" : Str) == "BadBook") = false by decide, show (("BadSign" : Str) == "BadSign") = true by decide, show (("BadSign" : Str) == "BadCode") = false by decide, show (("BadSign" : Str) == "BadText") = false by decide, show (("BadSign" : Str) == "BadNumber") = false by decide, show (("BadSign" : Str) == "BadRuns") = false by decide, show (("BadSign" : Str) == "BadManner") = false by decide, show (("BadSign" : Str) == "BadHand") = false by decide, show (("BadSign" : Str) == "Nothing") = false by decide]
    intro k1 k2 k3 k4 k5 k6 k7 k8 k9 ky
    simp at ky
    simp only [op_ix_l] at gx
    simp [F_law_word, sx_law_word, k1, k2, k3, k4, k5, k6, k7, k8, k9, h3, z4, z8, z9, op_cat_l, ky, gs, il, gi, gx]
  · have ky := key _ _ _ _ _ _ _ _ _ rfl rfl rfl rfl rfl rfl rfl rfl rfl
    have gs : gSum S [.lst [.int 0, .int 0, .int 1, .int 0, .int 0, .int 0, .int 0, .int 0, .int 0]] = some (.int 1) := rfl
    have il : isList S (.lst [.bl false, .bl false, .bl true, .bl false, .bl false, .bl false, .bl false, .bl false, .bl false]) = true := rfl
    have gi : gIndex S (.lst [.bl false, .bl false, .bl true, .bl false, .bl false, .bl false, .bl false, .bl false, .bl false]) [.bl true] = some (.int 2, S) := rfl
    have gx : gIx S (.lst [.str "BadBook", .str "BadSign", .str "BadCode", .str "BadText", .str "BadNumber", .str "BadRuns", .str "BadManner", .str "BadHand", .str "Nothing"]) (.int 2) = some (.str "BadCode") := rfl
    revert k1 k2 k3 k4 k5 k6 k7 k8 k9 ky
    simp only [show (("BadCode" : Str) == "BadBook") = false by decide, show (("BadCode" : Str) == "BadSign") = false by decide, show (("BadCode" : Str) == "BadCode") = true by decide, show (("BadCode" : Str) == "BadText") = false by decide, show (("BadCode" : Str) == "BadNumber") = false by decide, show (("BadCode" : Str) == "BadRuns") = false by decide, show (("BadCode" : Str) == "BadManner") = false by decide, show (("BadCode" : Str) == "BadHand") = false by decide, show (("BadCode" : Str) == "Nothing") = false by decide]
    intro k1 k2 k3 k4 k5 k6 k7 k8 k9 ky
    simp at ky
    simp only [op_ix_l] at gx
    simp [F_law_word, sx_law_word, k1, k2, k3, k4, k5, k6, k7, k8, k9, h3, z4, z8, z9, op_cat_l, ky, gs, il, gi, gx]
  · have ky := key _ _ _ _ _ _ _ _ _ rfl rfl rfl rfl rfl rfl rfl rfl rfl
    have gs : gSum S [.lst [.int 0, .int 0, .int 0, .int 1, .int 0, .int 0, .int 0, .int 0, .int 0]] = some (.int 1) := rfl
    have il : isList S (.lst [.bl false, .bl false, .bl false, .bl true, .bl false, .bl false, .bl false, .bl false, .bl false]) = true := rfl
    have gi : gIndex S (.lst [.bl false, .bl false, .bl false, .bl true, .bl false, .bl false, .bl false, .bl false, .bl false]) [.bl true] = some (.int 3, S) := rfl
    have gx : gIx S (.lst [.str "BadBook", .str "BadSign", .str "BadCode", .str "BadText", .str "BadNumber", .str "BadRuns", .str "BadManner", .str "BadHand", .str "Nothing"]) (.int 3) = some (.str "BadText") := rfl
    revert k1 k2 k3 k4 k5 k6 k7 k8 k9 ky
    simp only [show (("BadText" : Str) == "BadBook") = false by decide, show (("BadText" : Str) == "BadSign") = false by decide, show (("BadText" : Str) == "BadCode") = false by decide, show (("BadText" : Str) == "BadText") = true by decide, show (("BadText" : Str) == "BadNumber") = false by decide, show (("BadText" : Str) == "BadRuns") = false by decide, show (("BadText" : Str) == "BadManner") = false by decide, show (("BadText" : Str) == "BadHand") = false by decide, show (("BadText" : Str) == "Nothing") = false by decide]
    intro k1 k2 k3 k4 k5 k6 k7 k8 k9 ky
    simp at ky
    simp only [op_ix_l] at gx
    simp [F_law_word, sx_law_word, k1, k2, k3, k4, k5, k6, k7, k8, k9, h3, z4, z8, z9, op_cat_l, ky, gs, il, gi, gx]
  · have ky := key _ _ _ _ _ _ _ _ _ rfl rfl rfl rfl rfl rfl rfl rfl rfl
    have gs : gSum S [.lst [.int 0, .int 0, .int 0, .int 0, .int 1, .int 0, .int 0, .int 0, .int 0]] = some (.int 1) := rfl
    have il : isList S (.lst [.bl false, .bl false, .bl false, .bl false, .bl true, .bl false, .bl false, .bl false, .bl false]) = true := rfl
    have gi : gIndex S (.lst [.bl false, .bl false, .bl false, .bl false, .bl true, .bl false, .bl false, .bl false, .bl false]) [.bl true] = some (.int 4, S) := rfl
    have gx : gIx S (.lst [.str "BadBook", .str "BadSign", .str "BadCode", .str "BadText", .str "BadNumber", .str "BadRuns", .str "BadManner", .str "BadHand", .str "Nothing"]) (.int 4) = some (.str "BadNumber") := rfl
    revert k1 k2 k3 k4 k5 k6 k7 k8 k9 ky
    simp only [show (("BadNumber" : Str) == "BadBook") = false by decide, show (("BadNumber" : Str) == "BadSign") = false by decide, show (("BadNumber" : Str) == "BadCode") = false by decide, show (("BadNumber" : Str) == "BadText") = false by decide, show (("BadNumber" : Str) == "BadNumber") = true by decide, show (("BadNumber" : Str) == "BadRuns") = false by decide, show (("BadNumber" : Str) == "BadManner") = false by decide, show (("BadNumber" : Str) == "BadHand") = false by decide, show (("BadNumber" : Str) == "Nothing") = false by decide]
    intro k1 k2 k3 k4 k5 k6 k7 k8 k9 ky
    simp at ky
    simp only [op_ix_l] at gx
    simp [F_law_word, sx_law_word, k1, k2, k3, k4, k5, k6, k7, k8, k9, h3, z4, z8, z9, op_cat_l, ky, gs, il, gi, gx]
  · have ky := key _ _ _ _ _ _ _ _ _ rfl rfl rfl rfl rfl rfl rfl rfl rfl
    have gs : gSum S [.lst [.int 0, .int 0, .int 0, .int 0, .int 0, .int 1, .int 0, .int 0, .int 0]] = some (.int 1) := rfl
    have il : isList S (.lst [.bl false, .bl false, .bl false, .bl false, .bl false, .bl true, .bl false, .bl false, .bl false]) = true := rfl
    have gi : gIndex S (.lst [.bl false, .bl false, .bl false, .bl false, .bl false, .bl true, .bl false, .bl false, .bl false]) [.bl true] = some (.int 5, S) := rfl
    have gx : gIx S (.lst [.str "BadBook", .str "BadSign", .str "BadCode", .str "BadText", .str "BadNumber", .str "BadRuns", .str "BadManner", .str "BadHand", .str "Nothing"]) (.int 5) = some (.str "BadRuns") := rfl
    revert k1 k2 k3 k4 k5 k6 k7 k8 k9 ky
    simp only [show (("BadRuns" : Str) == "BadBook") = false by decide, show (("BadRuns" : Str) == "BadSign") = false by decide, show (("BadRuns" : Str) == "BadCode") = false by decide, show (("BadRuns" : Str) == "BadText") = false by decide, show (("BadRuns" : Str) == "BadNumber") = false by decide, show (("BadRuns" : Str) == "BadRuns") = true by decide, show (("BadRuns" : Str) == "BadManner") = false by decide, show (("BadRuns" : Str) == "BadHand") = false by decide, show (("BadRuns" : Str) == "Nothing") = false by decide]
    intro k1 k2 k3 k4 k5 k6 k7 k8 k9 ky
    simp at ky
    simp only [op_ix_l] at gx
    simp [F_law_word, sx_law_word, k1, k2, k3, k4, k5, k6, k7, k8, k9, h3, z4, z8, z9, op_cat_l, ky, gs, il, gi, gx]
  · have ky := key _ _ _ _ _ _ _ _ _ rfl rfl rfl rfl rfl rfl rfl rfl rfl
    have gs : gSum S [.lst [.int 0, .int 0, .int 0, .int 0, .int 0, .int 0, .int 1, .int 0, .int 0]] = some (.int 1) := rfl
    have il : isList S (.lst [.bl false, .bl false, .bl false, .bl false, .bl false, .bl false, .bl true, .bl false, .bl false]) = true := rfl
    have gi : gIndex S (.lst [.bl false, .bl false, .bl false, .bl false, .bl false, .bl false, .bl true, .bl false, .bl false]) [.bl true] = some (.int 6, S) := rfl
    have gx : gIx S (.lst [.str "BadBook", .str "BadSign", .str "BadCode", .str "BadText", .str "BadNumber", .str "BadRuns", .str "BadManner", .str "BadHand", .str "Nothing"]) (.int 6) = some (.str "BadManner") := rfl
    revert k1 k2 k3 k4 k5 k6 k7 k8 k9 ky
    simp only [show (("BadManner" : Str) == "BadBook") = false by decide, show (("BadManner" : Str) == "BadSign") = false by decide, show (("BadManner" : Str) == "BadCode") = false by decide, show (("BadManner" : Str) == "BadText") = false by decide, show (("BadManner" : Str) == "BadNumber") = false by decide, show (("BadManner" : Str) == "BadRuns") = false by decide, show (("BadManner" : Str) == "BadManner") = true by decide, show (("BadManner" : Str) == "BadHand") = false by decide, show (("BadManner" : Str) == "Nothing") = false by decide]
    intro k1 k2 k3 k4 k5 k6 k7 k8 k9 ky
    simp at ky
    simp only [op_ix_l] at gx
    simp [F_law_word, sx_law_word, k1, k2, k3, k4, k5, k6, k7, k8, k9, h3, z4, z8, z9, op_cat_l, ky, gs, il, gi, gx]
  · have ky := key _ _ _ _ _ _ _ _ _ rfl rfl rfl rfl rfl rfl rfl rfl rfl
    have gs : gSum S [.lst [.int 0, .int 0, .int 0, .int 0, .int 0, .int 0, .int 0, .int 1, .int 0]] = some (.int 1) := rfl
    have il : isList S (.lst [.bl false, .bl false, .bl false, .bl false, .bl false, .bl false, .bl false, .bl true, .bl false]) = true := rfl
    have gi : gIndex S (.lst [.bl false, .bl false, .bl false, .bl false, .bl false, .bl false, .bl false, .bl true, .bl false]) [.bl true] = some (.int 7, S) := rfl
    have gx : gIx S (.lst [.str "BadBook", .str "BadSign", .str "BadCode", .str "BadText", .str "BadNumber", .str "BadRuns", .str "BadManner", .str "BadHand", .str "Nothing"]) (.int 7) = some (.str "BadHand") := rfl
    revert k1 k2 k3 k4 k5 k6 k7 k8 k9 ky
    simp only [show (("BadHand" : Str) == "BadBook") = false by decide, show (("BadHand" : Str) == "BadSign") = false by decide, show (("BadHand" : Str) == "BadCode") = false by decide, show (("BadHand" : Str) == "BadText") = false by decide, show (("BadHand" : Str) == "BadNumber") = false by decide, show (("BadHand" : Str) == "BadRuns") = false by decide, show (("BadHand" : Str) == "BadManner") = false by decide, show (("BadHand" : Str) == "BadHand") = true by decide, show (("BadHand" : Str) == "Nothing") = false by decide]
    intro k1 k2 k3 k4 k5 k6 k7 k8 k9 ky
    simp at ky
    simp only [op_ix_l] at gx
    simp [F_law_word, sx_law_word, k1, k2, k3, k4, k5, k6, k7, k8, k9, h3, z4, z8, z9, op_cat_l, ky, gs, il, gi, gx]
  · have ky := key _ _ _ _ _ _ _ _ _ rfl rfl rfl rfl rfl rfl rfl rfl rfl
    have gs : gSum S [.lst [.int 0, .int 0, .int 0, .int 0, .int 0, .int 0, .int 0, .int 0, .int 1]] = some (.int 1) := rfl
    have il : isList S (.lst [.bl false, .bl false, .bl false, .bl false, .bl false, .bl false, .bl false, .bl false, .bl true]) = true := rfl
    have gi : gIndex S (.lst [.bl false, .bl false, .bl false, .bl false, .bl false, .bl false, .bl false, .bl false, .bl true]) [.bl true] = some (.int 8, S) := rfl
    have gx : gIx S (.lst [.str "BadBook", .str "BadSign", .str "BadCode", .str "BadText", .str "BadNumber", .str "BadRuns", .str "BadManner", .str "BadHand", .str "Nothing"]) (.int 8) = some (.str "Nothing") := rfl
    revert k1 k2 k3 k4 k5 k6 k7 k8 k9 ky
    simp only [show (("Nothing" : Str) == "BadBook") = false by decide, show (("Nothing" : Str) == "BadSign") = false by decide, show (("Nothing" : Str) == "BadCode") = false by decide, show (("Nothing" : Str) == "BadText") = false by decide, show (("Nothing" : Str) == "BadNumber") = false by decide, show (("Nothing" : Str) == "BadRuns") = false by decide, show (("Nothing" : Str) == "BadManner") = false by decide, show (("Nothing" : Str) == "BadHand") = false by decide, show (("Nothing" : Str) == "Nothing") = true by decide]
    intro k1 k2 k3 k4 k5 k6 k7 k8 k9 ky
    simp at ky
    simp only [op_ix_l] at gx
    simp [F_law_word, sx_law_word, k1, k2, k3, k4, k5, k6, k7, k8, k9, h3, z4, z8, z9, op_cat_l, ky, gs, il, gi, gx]
def wh_law_code_0 (K : PySem.W.Frag) : Sx := (sxSeq (sxA (ex2 gAdd (ex2 gIx (exC (.str ".-")) (ex2 gMod (exV 0) (exC (.int 2)))) (exV 1)) (gN 1))
    (sxA (ex2 gFdiv (exV 0) (exC (.int 2))) (gN 0)))
/-- what _law_code does -/
def sx_law_code (K : PySem.W.Frag) : Sx :=
    (sxSeq (sxA (exC (.str "")) (gN 1))
    (sxSeq (sxWh (tx (ex2 gGt (exV 0) (exC (.int 1)))) (wh_law_code_0 K))
    (sxR (exV 1))))
theorem sc_law_code : FnScope ["_law_number", "_law_found"] ["_law_number"] (defScope (top 42)) := ⟨rfl, rfl, rfl, by decide +kernel, rfl, by decide +kernel, by decide +kernel⟩
def F_law_code (K : PySem.W.Frag) : Fx := runF 2 (sx_law_code K)
theorem g_law_code (c : Fs fa fn tf ex K mg base) : Good P w K mg base (TT tf K) 1 (He.ga K "_law_code") ["_law_number"] (F_law_code K) := by
  obtain ⟨fd, F⟩ := c.d.def_ 27 (d := d_law_code) rfl
  refine fnG (st := (top 42)) (N := ["_law_number", "_law_found"]) (s := sx_law_code K) F sc_law_code (fun _ _ _ _ _ _ us hl => match us, hl with | [_], _ => rfl) fun cdv A outer s0 H E hr => ?_
  exact (dss_cons (ds_set 1 sc_law_code.nd de_str) (dss_cons (ds_while (passes_of rfl) (dt_gt (de_var 0) de_int) (dss_cons (ds_set 1 sc_law_code.nd (de_add (de_ix (hu_of hr) de_str (de_mod (de_var 0) de_int)) (de_var 1))) (dss_one (ds_set 0 sc_law_code.nd (de_fdiv (de_var 0) de_int))))) (dss_one (ds_ret (de_var 1)))))
/-- what _law_signs does -/
def sx_law_signs (K : PySem.W.Frag) : Sx :=
    (sxR (exC (.str "abcdefghijklmnopqrstuvwxyz0123456789.,?/=")))
theorem sc_law_signs : FnScope [] [] (defScope (top 43)) := ⟨rfl, rfl, rfl, by decide +kernel, rfl, by decide +kernel, by decide +kernel⟩
def F_law_signs (K : PySem.W.Frag) : Fx := runF 0 (sx_law_signs K)
theorem g_law_signs (c : Fs fa fn tf ex K mg base) : Good P w K mg base (TT tf K) 1 (He.ga K "_law_signs") [] (F_law_signs K) := by
  obtain ⟨fd, F⟩ := c.d.def_ 28 (d := d_law_signs) rfl
  refine fnG (st := (top 43)) (N := []) (s := sx_law_signs K) F sc_law_signs (fun _ _ _ _ _ _ us hl => match us, hl with | [], _ => rfl) fun cdv A outer s0 H E hr => ?_
  exact (dss_one (ds_ret de_str))
theorem nx_law_signs : ∀ (S : Store) (e : Addr) (S1 : Store), F_law_signs K [] S ≠ .exc e S1 := fun S e S1 z => by simp [F_law_signs, sx_law_signs] at z
def lp_law_full_right_0 (K : PySem.W.Frag) : Sx := (sxE (exMeth (He.ga K "Listener") "hear" 3 (F_Listener_hear K) (exV 1) (axC (ex2 gEq (ex2 gMod (exV 2) (exC (.int 2))) (exC (.int 1))) (axC (exC (.int 1)) axN))))
/-- what _law_full_right does -/
def sx_law_full_right (K : PySem.W.Frag) : Sx :=
    (sxSeq (sxA (exMake (He.ga K "Listener") 3 (F_Listener_init K) (axC (exV 0) (axC (exC (.int 1)) axN))) (gN 1))
    (sxSeq (sxE (exMeth (He.ga K "Listener") "hear" 3 (F_Listener_hear K) (exV 1) (axC (exC (.bl true)) (axC (exC (.int 2000)) axN))))
    (sxSeq (sxIf (tx (ex2 gNe (exTold (wz K) (exMeth (He.ga K "Listener") "hear" 3 (F_Listener_hear K) (exV 1) (axC (exC (.bl true)) (axC (exC (.int 1)) axN)))) (exC (.str "BadRuns")))) (sxR (exC (.bl false))) sxNil)
    (sxSeq (sxFor (ixR1 (axC (exC (.int 199)) axN)) (gN 2) (lp_law_full_right_0 K))
    (sxSeq (sxIf (txOr (tx (ex2 gNe (exTold (wz K) (exMeth (He.ga K "Listener") "hear" 3 (F_Listener_hear K) (exV 1) (axC (exC (.bl true)) (axC (exC (.int 1)) axN)))) (exC (.str "BadRuns")))) (tx (ex2 gNe (exB gLen (axC (exMeth0 (He.ga K "Listener") "runs_now" (F_Listener_runs_now K) (exV 1)) axN)) (exC (.int 200))))) (sxR (exC (.bl false))) sxNil)
    (sxSeq (sxE (exMeth (He.ga K "Listener") "hear" 3 (F_Listener_hear K) (exV 1) (axC (exC (.bl false)) (axC (exC (.int 1999)) axN))))
    (sxR (exAnd (ex2 gEq (ex2 gIx (exMeth0 (He.ga K "Listener") "runs_now" (F_Listener_runs_now K) (exV 1)) (ex1 gNeg (exC (.int 1)))) (exTup (axC (exC (.bl false)) (axC (exC (.int 2000)) axN)))) (exAnd (ex2 gEq (exB gLen (axC (exMeth0 (He.ga K "Listener") "take" (F_Listener_take K) (exV 1)) axN)) (exC (.int 1))) (ex2 gEq (exMeth0 (He.ga K "Listener") "runs_now" (F_Listener_runs_now K) (exV 1)) (exLst axN)))))))))))
theorem sc_law_full_right : FnScope ["_law_book", "_law_listener", "_law_j"] ["_law_book"] (defScope (top 44)) := ⟨rfl, rfl, rfl, by decide +kernel, rfl, by decide +kernel, by decide +kernel⟩
def F_law_full_right (K : PySem.W.Frag) : Fx := runF 3 (sx_law_full_right K)
theorem g_law_full_right (c : Fs fa fn tf ex K mg base) : Good P w K mg base (TT tf K) 6 (He.ga K "_law_full_right") ["_law_book"] (F_law_full_right K) := by
  obtain ⟨fd, F⟩ := c.d.def_ 29 (d := d_law_full_right) rfl
  obtain ⟨fdT, FT⟩ := c.d.def_ 26 (d := d_law_told) rfl
  refine fnGL (p := ("_law_full_right", none)) (st := (top 44)) (N := ["_law_book", "_law_listener", "_law_j"]) (s := sx_law_full_right K) F sc_law_full_right (fun _ _ _ _ _ _ us hl => match us, hl with | [_], _ => rfl) fun cdv A outer s0 H E hcd hr => ?_
  exact (dss_cons (ds_set 1 sc_law_full_right.nd (de_makeG (g_Listener_init c) (c.mkr 59) hr (c.glo 60) (tkO rfl rfl rfl rfl) (by decide) rfl (da_cons (de_var 0) (da_cons de_int da_nil)))) (dss_cons (ds_expr (de_methG (g_Listener_hear c) hr (c.cls 23) (c.meth 61) (tkO rfl rfl rfl rfl) (by decide) (de_var 1) (da_cons de_bl (da_cons de_int da_nil)))) (dss_cons (ds_if (dt_ne hr.units (de_told (k := 1) (st := top 41) FT rfl (fun _ _ _ _ _ _ us hl => match us, hl with | [_], _ => rfl) sc_law_told (.inl rfl) rfl rfl rfl (by decide) (g_law_word c) (by decide) (words_ok c) (c.glo 62) (c.glo 63) (c.glo 64) (c.tb ("_law_full_right", none) (by decide)) hcd (tt_mem (by decide)) (tt_uniq (nodupT_ok (ex_nd c)) (p := ("_law_full_right", none)) (by decide)) hr (by decide) (LamX.lamS_by (by kernel_rfl)) rfl (fun _ _ _ _ _ => rfl) (fun _ _ _ _ _ _ _ hr => (de_methG (g_Listener_hear c) hr (c.cls 23) (c.meth 61) (tkO rfl rfl rfl rfl) (by decide) (de_var 1) (da_cons de_bl (da_cons de_int da_nil)))) rfl) de_str) (dss_one (ds_ret de_bl)) dss_nil) (dss_cons (ds_for (passes_of rfl) rfl (di_range1 rfl (c.free 46) (da_cons de_int da_nil)) (dg_name 2 sc_law_full_right.nd) (dss_one (ds_expr (de_methG (g_Listener_hear c) hr (c.cls 23) (c.meth 61) (tkO rfl rfl rfl rfl) (by decide) (de_var 1) (da_cons (de_eq hr.units (de_mod (de_var 2) de_int) de_int) (da_cons de_int da_nil)))))) (dss_cons (ds_if (DW.dt (dw_or (dt_ne hr.units (de_told (k := 1) (st := top 41) FT rfl (fun _ _ _ _ _ _ us hl => match us, hl with | [_], _ => rfl) sc_law_told (.inl rfl) rfl rfl rfl (by decide) (g_law_word c) (by decide) (words_ok c) (c.glo 62) (c.glo 63) (c.glo 64) (c.tb ("_law_full_right", none) (by decide)) hcd (tt_mem (by decide)) (tt_uniq (nodupT_ok (ex_nd c)) (p := ("_law_full_right", none)) (by decide)) hr (by decide) (LamX.lamS_by (by kernel_rfl)) rfl (fun _ _ _ _ _ => rfl) (fun _ _ _ _ _ _ _ hr => (de_methG (g_Listener_hear c) hr (c.cls 23) (c.meth 61) (tkO rfl rfl rfl rfl) (by decide) (de_var 1) (da_cons de_bl (da_cons de_int da_nil)))) rfl) de_str) (dw_or1 (dt_ne hr.units (de_len rfl (c.free 1) (da_cons (de_meth0G (g_Listener_runs_now c) hr (c.cls 23) (c.meth 65) (tkO rfl rfl rfl rfl) (by decide) (de_var 1)) da_nil)) de_int)))) (dss_one (ds_ret de_bl)) dss_nil) (dss_cons (ds_expr (de_methG (g_Listener_hear c) hr (c.cls 23) (c.meth 61) (tkO rfl rfl rfl rfl) (by decide) (de_var 1) (da_cons de_bl (da_cons de_int da_nil)))) (dss_one (ds_ret (de_and (de_eq hr.units (de_ix (hu_of hr) (de_meth0G (g_Listener_runs_now c) hr (c.cls 23) (c.meth 65) (tkO rfl rfl rfl rfl) (by decide) (de_var 1)) (de_neg de_int)) (de_tup (da_cons de_bl (da_cons de_int da_nil)))) (de_and (de_eq hr.units (de_len rfl (c.free 1) (da_cons (de_meth0G (g_Listener_take c) hr (c.cls 23) (c.meth 66) (tkO rfl rfl rfl rfl) (by decide) (de_var 1)) da_nil)) de_int) (de_one (de_eq hr.units (de_meth0G (g_Listener_runs_now c) hr (c.cls 23) (c.meth 65) (tkO rfl rfl rfl rfl) (by decide) (de_var 1)) (de_lst da_nil)))))))))))))
def el_law_0 (K : PySem.W.Frag) : Ex := (exTup (axC (exV 12) (axC (exF 1 (F_law_code K) (axC (ex2 gAdd (exC (.int 2)) (exV 11)) axN)) axN)))
def lp_law_1 (K : PySem.W.Frag) : Sx := (sxSeq (sxA (exNew (axC (exTold (wz K) (exMake (He.ga K "Listener") 3 (F_Listener_init K) (axC (exV 5) (axC (exC .non) axN)))) axN)) (gN 6))
    (sxSeq (sxE (exM isList gAppend (exV 6) (axC (exTold (wz K) (exMake (He.ga K "Lesson") 3 (F_Lesson_init K) (axC (exV 5) (axC (exC .non) axN)))) axN)))
    (sxIf (tx (ex2 gNe (exV 6) (ex2 gMul (exLst (axC (exC (.str "BadBook")) axN)) (exC (.int 2))))) (sxR (exC (.bl false))) sxNil)))
def lp_law_2 (K : PySem.W.Frag) : Sx := (sxSeq (sxA (exMake (He.ga K "Listener") 3 (F_Listener_init K) (axC (exV 3) (axC (exC (.int 1)) axN))) (gN 7))
    (sxSeq (sxIf (tx (ex2 gNe (exTold (wz K) (exMake (He.ga K "Listener") 3 (F_Listener_init K) (axC (exV 3) (axC (exV 5) axN)))) (exC (.str "BadNumber")))) (sxR (exC (.bl false))) sxNil)
    (sxIf (tx (ex2 gNe (exTold (wz K) (exMeth (He.ga K "Listener") "set_unit" 2 (F_Listener_set_unit K) (exV 7) (axC (exV 5) axN))) (exC (.str "BadNumber")))) (sxR (exC (.bl false))) sxNil)))
def lp_law_3 (K : PySem.W.Frag) : Sx := (sxIf (txOr (tx (ex2 gNe (exTold (wz K) (exMeth (He.ga K "Listener") "hear" 3 (F_Listener_hear K) (exV 7) (axC (exV 8) (axC (exV 9) axN)))) (exC (.str "BadRuns")))) (tx (ex2 gNe (exMeth0 (He.ga K "Listener") "runs_now" (F_Listener_runs_now K) (exV 7)) (exLst axN)))) (sxR (exC (.bl false))) sxNil)
def lp_law_4 (K : PySem.W.Frag) : Sx := (sxIf (tx (ex2 gNe (exTold (wz K) (exMake (He.ga K "Lesson") 3 (F_Lesson_init K) (axC (exV 3) (axC (exV 5) axN)))) (exC (.str "BadSign")))) (sxR (exC (.bl false))) sxNil)
def lp_law_5 (K : PySem.W.Frag) : Sx := (sxIf (txOr (tx (ex2 gNe (exTold (wz K) (exMeth (He.ga K "Lesson") "answer" 2 (F_Lesson_answer K) (exV 10) (axC (exV 5) axN))) (exC (.str "BadCode")))) (tx (ex2 gNe (exMeth0 (He.ga K "Lesson") "answers" (F_Lesson_answers K) (exV 10)) (exLst axN)))) (sxR (exC (.bl false))) sxNil)
def lp_law_6 (K : PySem.W.Frag) : Sx := (sxIf (tx (ex2 gNe (exTold (wz K) (exMeth (He.ga K "Lesson") "score" 2 (F_Lesson_score K) (exV 10) (axC (exV 5) axN))) (exC (.str "BadSign")))) (sxR (exC (.bl false))) sxNil)
def lp_law_7 (K : PySem.W.Frag) : Sx := (sxSeq (sxA (exF 2 (F_law_drawn K) (axC (exF 2 (F_law_cell K) (axC (exV 0) (axC (exV 1) axN))) (axC (exV 1) axN))) (gN 2))
    (sxSeq (sxA (exB (fun S xs => (gDict S xs).map .dct) (axC (exLc (ixEV (axC (ex0 (F_law_signs K)) axN)) (gT 2 (gsC (gN 11) (gsC (gN 12) gsN))) txY (el_law_0 K) [11, 12]) axN)) (gN 3))
    (sxSeq (sxA (exSl (exB (fun S xs => (gListT S xs).map .lst) (axC (ex0 (F_law_signs K)) axN)) (oxS (ex2 gMod (exV 2) (exC (.int 9)))) (oxS (ex2 gAdd (exC (.int 20)) (ex2 gMod (exV 2) (exC (.int 9)))))) (gN 4))
    (sxSeq (sxFor (ixV (exLst (axC exD0 (axC (exC .non) (axC (exDct (pxC (exC (.str "a")) (exC (.str "")) pxN)) (axC (exDct (pxC (exC (.str "a")) (exC (.str ".")) (pxC (exC (.str "b")) (exC (.str ".")) pxN))) (axC (exDct (pxC (exC (.str "A")) (exC (.str ".")) pxN)) axN))))))) (gN 5) (lp_law_1 K))
    (sxSeq (sxFor (ixV (exLst (axC (exC (.int 0)) (axC (exC (.int 10)) (axC (exC .non) (axC (exC (.bl true)) (axC (exC (.str "1")) axN))))))) (gN 5) (lp_law_2 K))
    (sxSeq (sxFor (ixV (exLst (axC (exTup (axC (exC .non) (axC (exC (.int 1)) axN))) (axC (exTup (axC (exC (.int 1)) (axC (exC (.int 1)) axN))) (axC (exTup (axC (exC (.str "")) (axC (exC (.int 1)) axN))) (axC (exTup (axC (exC (.bl true)) (axC (exC (.int 0)) axN))) (axC (exTup (axC (exC (.bl true)) (axC (exC (.int 2001)) axN))) (axC (exTup (axC (exC (.bl false)) (axC (exC .non) axN))) (axC (exTup (axC (exC (.bl false)) (axC (exC (.bl true)) axN))) axN))))))))) (gT 2 (gsC (gN 8) (gsC (gN 9) gsN))) (lp_law_3 K))
    (sxSeq (sxFor (ixV (exLst (axC (exC .non) (axC (exLst axN) (axC (exLst (axC (exC (.str "a")) axN)) (axC (exTup (axC (exC (.str "a")) (axC (exC (.str "b")) axN))) (axC (exLst (axC (exC (.str "a")) (axC (exC (.str "a")) axN))) (axC (exLst (axC (exC (.str "a")) (axC (exC (.str "#")) axN))) (axC (exLst (axC (exC (.str "a")) (axC (exC .non) axN))) (axC (exSl (exB (fun S xs => (gListT S xs).map .lst) (axC (ex0 (F_law_signs K)) axN)) oxN (oxS (exC (.int 21)))) (axC (exC (.str "ab")) axN))))))))))) (gN 5) (lp_law_4 K))
    (sxSeq (sxA (exMake (He.ga K "Lesson") 3 (F_Lesson_init K) (axC (exV 3) (axC (exV 4) axN))) (gN 10))
    (sxSeq (sxFor (ixV (exLst (axC (exC (.str "")) (axC (exC .non) (axC (exC (.str ".......")) (axC (exC (.str "x")) (axC (exC (.int 5)) (axC (exLst (axC (exC (.str ".")) (axC (exC (.str "-")) axN))) axN)))))))) (gN 5) (lp_law_5 K))
    (sxSeq (sxFor (ixV (exLst (axC (exC (.str "#")) (axC (exC .non) (axC (exC (.str "")) (axC (exC (.str "ab")) (axC (exC (.int 5)) (axC (ex2 gIx (ex2 gAdd (exSl (exB (fun S xs => (gListT S xs).map .lst) (axC (ex0 (F_law_signs K)) axN)) oxN (oxS (ex2 gMod (exV 2) (exC (.int 9))))) (exLst (axC (exC (.str "=")) axN))) (exC (.int 0))) axN)))))))) (gN 5) (lp_law_6 K))
    (sxIf (txOr (tx (ex2 gNe (exTold (wz K) (exMeth0 (He.ga K "Lesson") "redo" (F_Lesson_redo K) (exV 10))) (exC (.str "Nothing")))) (txOr (tx (ex2 gNe (exMeth0 (He.ga K "Lesson") "known" (F_Lesson_known K) (exV 10)) (exSl (exV 4) oxN (oxS (exC (.int 2)))))) (txNot (txT (exF 1 (F_law_full_right K) (axC (exV 3) axN)))))) (sxR (exC (.bl false))) sxNil)))))))))))
/-- what law does -/
def sx_law (K : PySem.W.Frag) : Sx :=
    (sxSeq (sxFor (ixR1 (axC (exB gMax2 (axC (exC (.int 1)) (axC (exB gMin2 (axC (exC (.int 4)) (axC (exB gLen (axC (exV 0) axN)) axN))) axN))) axN)) (gN 1) (lp_law_7 K))
    (sxR (exC (.bl true))))
theorem sc_law : FnScope ["_law_script", "_law_k", "_law_more", "_law_book", "_law_some", "_law_bad", "_law_found", "_law_listener", "_law_is_tone", "_law_ticks", "_law_lesson", "_law_j", "_law_sign"] ["_law_script"] (defScope (top 45)) := ⟨rfl, rfl, rfl, by decide +kernel, rfl, by decide +kernel, by decide +kernel⟩
def F_law (K : PySem.W.Frag) : Fx := runF 13 (sx_law K)
theorem g_law (c : Fs fa fn tf ex K mg base) : Good P w K mg base (TT tf K) 8 (He.ga K "law") ["_law_script"] (F_law K) := by
  obtain ⟨fd, F⟩ := c.d.def_ 30 (d := d_law) rfl
  obtain ⟨fdT, FT⟩ := c.d.def_ 26 (d := d_law_told) rfl
  refine fnGL (p := ("law", none)) (st := (top 45)) (N := ["_law_script", "_law_k", "_law_more", "_law_book", "_law_some", "_law_bad", "_law_found", "_law_listener", "_law_is_tone", "_law_ticks", "_law_lesson", "_law_j", "_law_sign"]) (s := sx_law K) F sc_law (fun _ _ _ _ _ _ us hl => match us, hl with | [_], _ => rfl) fun cdv A outer s0 H E hcd hr => ?_
  exact (dss_cons (ds_for (passes_of rfl) rfl (di_range1 rfl (c.free 46) (da_cons (de_max2 rfl rfl (c.free 45) (da_cons de_int (da_cons (de_min2 rfl rfl (c.free 67) (da_cons de_int (da_cons (de_len rfl (c.free 1) (da_cons (de_var 0) da_nil)) da_nil))) da_nil))) da_nil)) (dg_name 1 sc_law.nd) (dss_cons (ds_set 2 sc_law.nd (de_callG (g_law_drawn c) hr (c.glo 69) (tkO rfl rfl rfl rfl) (by decide) rfl (da_cons (de_callG (g_law_cell c) hr (c.glo 68) (tkO rfl rfl rfl rfl) (by decide) rfl (da_cons (de_var 0) (da_cons (de_var 1) da_nil))) (da_cons (de_var 1) da_nil)))) (dss_cons (ds_set 3 sc_law.nd (de_dict rfl rfl (c.free 5) (da_cons (de_lc rfl sc_law.nd (di_enumV rfl (c.free 32) (da_cons (de_call0G (g_law_signs c) hr (c.glo 70) (by decide) rfl nx_law_signs) da_nil)) (own := [("_law_j", 11), ("_law_sign", 12)]) (blkOk_by (by kernel_rfl)) (fun _ _ _ _ _ => (dg_tup rfl (dgs_cons (dg_name 11 sc_law.nd) (dgs_cons (dg_name 12 sc_law.nd) dgs_nil)))) (fun _ _ _ _ _ => dts_nil) (fun _ _ _ _ _ => (de_tup (da_cons (de_var 12) (da_cons (de_callG (g_law_code c) hr (c.glo 71) tk0 (by decide) rfl (da_cons (de_add de_int (de_var 11)) da_nil)) da_nil))))) da_nil))) (dss_cons (ds_set 4 sc_law.nd (de_slice (de_listT rfl rfl (c.free 31) (da_cons (de_call0G (g_law_signs c) hr (c.glo 70) (by decide) rfl nx_law_signs) da_nil)) (do_some (de_mod (de_var 2) de_int)) (do_some (de_add de_int (de_mod (de_var 2) de_int))))) (dss_cons (ds_for (passes_of rfl) rfl (di_val (de_lst (da_cons de_dct0 (da_cons de_non (da_cons (de_dct (dp_cons de_str de_str dp_nil)) (da_cons (de_dct (dp_cons de_str de_str (dp_cons de_str de_str dp_nil))) (da_cons (de_dct (dp_cons de_str de_str dp_nil)) da_nil))))))) (dg_name 5 sc_law.nd) (dss_cons (ds_set 6 sc_law.nd (de_new (da_cons (de_told (k := 5) (st := top 41) FT rfl (fun _ _ _ _ _ _ us hl => match us, hl with | [_], _ => rfl) sc_law_told (.inl rfl) rfl rfl rfl (by decide) (g_law_word c) (by decide) (words_ok c) (c.glo 62) (c.glo 63) (c.glo 64) (c.tb ("law", none) (by decide)) hcd (tt_mem (by decide)) (tt_uniq (nodupT_ok (ex_nd c)) (p := ("law", none)) (by decide)) hr (by decide) (LamX.lamS_by (by kernel_rfl)) rfl (fun _ _ _ _ _ => rfl) (fun _ _ _ _ _ _ _ hr => (de_makeG (g_Listener_init c) (c.mkr 59) hr (c.glo 60) (tkO rfl rfl rfl rfl) (by decide) rfl (da_cons (de_var 5) (da_cons de_non da_nil)))) rfl) da_nil))) (dss_cons (ds_expr (de_append (de_var 6) (da_cons (de_told (k := 5) (st := top 41) FT rfl (fun _ _ _ _ _ _ us hl => match us, hl with | [_], _ => rfl) sc_law_told (.inl rfl) rfl rfl rfl (by decide) (g_law_word c) (by decide) (words_ok c) (c.glo 62) (c.glo 63) (c.glo 64) (c.tb ("law", none) (by decide)) hcd (tt_mem (by decide)) (tt_uniq (nodupT_ok (ex_nd c)) (p := ("law", none)) (by decide)) hr (by decide) (LamX.lamS_by (by kernel_rfl)) rfl (fun _ _ _ _ _ => rfl) (fun _ _ _ _ _ _ _ hr => (de_makeG (g_Lesson_init c) (c.mkr 72) hr (c.glo 73) (tkO rfl rfl rfl rfl) (by decide) rfl (da_cons (de_var 5) (da_cons de_non da_nil)))) rfl) da_nil))) (dss_one (ds_if (dt_ne hr.units (de_var 6) (de_mul (de_lst (da_cons de_str da_nil)) de_int)) (dss_one (ds_ret de_bl)) dss_nil))))) (dss_cons (ds_for (passes_of rfl) rfl (di_val (de_lst (da_cons de_int (da_cons de_int (da_cons de_non (da_cons de_bl (da_cons de_str da_nil))))))) (dg_name 5 sc_law.nd) (dss_cons (ds_set 7 sc_law.nd (de_makeG (g_Listener_init c) (c.mkr 59) hr (c.glo 60) (tkO rfl rfl rfl rfl) (by decide) rfl (da_cons (de_var 3) (da_cons de_int da_nil)))) (dss_cons (ds_if (dt_ne hr.units (de_told (k := 5) (st := top 41) FT rfl (fun _ _ _ _ _ _ us hl => match us, hl with | [_], _ => rfl) sc_law_told (.inl rfl) rfl rfl rfl (by decide) (g_law_word c) (by decide) (words_ok c) (c.glo 62) (c.glo 63) (c.glo 64) (c.tb ("law", none) (by decide)) hcd (tt_mem (by decide)) (tt_uniq (nodupT_ok (ex_nd c)) (p := ("law", none)) (by decide)) hr (by decide) (LamX.lamS_by (by kernel_rfl)) rfl (fun _ _ _ _ _ => rfl) (fun _ _ _ _ _ _ _ hr => (de_makeG (g_Listener_init c) (c.mkr 59) hr (c.glo 60) (tkO rfl rfl rfl rfl) (by decide) rfl (da_cons (de_var 3) (da_cons (de_var 5) da_nil)))) rfl) de_str) (dss_one (ds_ret de_bl)) dss_nil) (dss_one (ds_if (dt_ne hr.units (de_told (k := 3) (st := top 41) FT rfl (fun _ _ _ _ _ _ us hl => match us, hl with | [_], _ => rfl) sc_law_told (.inl rfl) rfl rfl rfl (by decide) (g_law_word c) (by decide) (words_ok c) (c.glo 62) (c.glo 63) (c.glo 64) (c.tb ("law", none) (by decide)) hcd (tt_mem (by decide)) (tt_uniq (nodupT_ok (ex_nd c)) (p := ("law", none)) (by decide)) hr (by decide) (LamX.lamS_by (by kernel_rfl)) rfl (fun _ _ _ _ _ => rfl) (fun _ _ _ _ _ _ _ hr => (de_methG (g_Listener_set_unit c) hr (c.cls 23) (c.meth 74) (tkO rfl rfl rfl rfl) (by decide) (de_var 7) (da_cons (de_var 5) da_nil))) rfl) de_str) (dss_one (ds_ret de_bl)) dss_nil))))) (dss_cons (ds_for (passes_of rfl) rfl (di_val (de_lst (da_cons (de_tup (da_cons de_non (da_cons de_int da_nil))) (da_cons (de_tup (da_cons de_int (da_cons de_int da_nil))) (da_cons (de_tup (da_cons de_str (da_cons de_int da_nil))) (da_cons (de_tup (da_cons de_bl (da_cons de_int da_nil))) (da_cons (de_tup (da_cons de_bl (da_cons de_int da_nil))) (da_cons (de_tup (da_cons de_bl (da_cons de_non da_nil))) (da_cons (de_tup (da_cons de_bl (da_cons de_bl da_nil))) da_nil))))))))) (dg_tup rfl (dgs_cons (dg_name 8 sc_law.nd) (dgs_cons (dg_name 9 sc_law.nd) dgs_nil))) (dss_one (ds_if (DW.dt (dw_or (dt_ne hr.units (de_told (k := 1) (st := top 41) FT rfl (fun _ _ _ _ _ _ us hl => match us, hl with | [_], _ => rfl) sc_law_told (.inl rfl) rfl rfl rfl (by decide) (g_law_word c) (by decide) (words_ok c) (c.glo 62) (c.glo 63) (c.glo 64) (c.tb ("law", none) (by decide)) hcd (tt_mem (by decide)) (tt_uniq (nodupT_ok (ex_nd c)) (p := ("law", none)) (by decide)) hr (by decide) (LamX.lamS_by (by kernel_rfl)) rfl (fun _ _ _ _ _ => rfl) (fun _ _ _ _ _ _ _ hr => (de_methG (g_Listener_hear c) hr (c.cls 23) (c.meth 61) (tkO rfl rfl rfl rfl) (by decide) (de_var 7) (da_cons (de_var 8) (da_cons (de_var 9) da_nil)))) rfl) de_str) (dw_or1 (dt_ne hr.units (de_meth0G (g_Listener_runs_now c) hr (c.cls 23) (c.meth 65) (tkO rfl rfl rfl rfl) (by decide) (de_var 7)) (de_lst da_nil))))) (dss_one (ds_ret de_bl)) dss_nil))) (dss_cons (ds_for (passes_of rfl) rfl (di_val (de_lst (da_cons de_non (da_cons (de_lst da_nil) (da_cons (de_lst (da_cons de_str da_nil)) (da_cons (de_tup (da_cons de_str (da_cons de_str da_nil))) (da_cons (de_lst (da_cons de_str (da_cons de_str da_nil))) (da_cons (de_lst (da_cons de_str (da_cons de_str da_nil))) (da_cons (de_lst (da_cons de_str (da_cons de_non da_nil))) (da_cons (de_slice (de_listT rfl rfl (c.free 31) (da_cons (de_call0G (g_law_signs c) hr (c.glo 70) (by decide) rfl nx_law_signs) da_nil)) do_none (do_some de_int)) (da_cons de_str da_nil))))))))))) (dg_name 5 sc_law.nd) (dss_one (ds_if (dt_ne hr.units (de_told (k := 5) (st := top 41) FT rfl (fun _ _ _ _ _ _ us hl => match us, hl with | [_], _ => rfl) sc_law_told (.inl rfl) rfl rfl rfl (by decide) (g_law_word c) (by decide) (words_ok c) (c.glo 62) (c.glo 63) (c.glo 64) (c.tb ("law", none) (by decide)) hcd (tt_mem (by decide)) (tt_uniq (nodupT_ok (ex_nd c)) (p := ("law", none)) (by decide)) hr (by decide) (LamX.lamS_by (by kernel_rfl)) rfl (fun _ _ _ _ _ => rfl) (fun _ _ _ _ _ _ _ hr => (de_makeG (g_Lesson_init c) (c.mkr 72) hr (c.glo 73) (tkO rfl rfl rfl rfl) (by decide) rfl (da_cons (de_var 3) (da_cons (de_var 5) da_nil)))) rfl) de_str) (dss_one (ds_ret de_bl)) dss_nil))) (dss_cons (ds_set 10 sc_law.nd (de_makeG (g_Lesson_init c) (c.mkr 72) hr (c.glo 73) (tkO rfl rfl rfl rfl) (by decide) rfl (da_cons (de_var 3) (da_cons (de_var 4) da_nil)))) (dss_cons (ds_for (passes_of rfl) rfl (di_val (de_lst (da_cons de_str (da_cons de_non (da_cons de_str (da_cons de_str (da_cons de_int (da_cons (de_lst (da_cons de_str (da_cons de_str da_nil))) da_nil)))))))) (dg_name 5 sc_law.nd) (dss_one (ds_if (DW.dt (dw_or (dt_ne hr.units (de_told (k := 2) (st := top 41) FT rfl (fun _ _ _ _ _ _ us hl => match us, hl with | [_], _ => rfl) sc_law_told (.inl rfl) rfl rfl rfl (by decide) (g_law_word c) (by decide) (words_ok c) (c.glo 62) (c.glo 63) (c.glo 64) (c.tb ("law", none) (by decide)) hcd (tt_mem (by decide)) (tt_uniq (nodupT_ok (ex_nd c)) (p := ("law", none)) (by decide)) hr (by decide) (LamX.lamS_by (by kernel_rfl)) rfl (fun _ _ _ _ _ => rfl) (fun _ _ _ _ _ _ _ hr => (de_methG (g_Lesson_answer c) hr (c.cls 40) (c.meth 76) (tkO rfl rfl rfl rfl) (by decide) (de_var 10) (da_cons (de_var 5) da_nil))) rfl) de_str) (dw_or1 (dt_ne hr.units (de_meth0G (g_Lesson_answers c) hr (c.cls 40) (c.meth 75) (tkO rfl rfl rfl rfl) (by decide) (de_var 10)) (de_lst da_nil))))) (dss_one (ds_ret de_bl)) dss_nil))) (dss_cons (ds_for (passes_of rfl) rfl (di_val (de_lst (da_cons de_str (da_cons de_non (da_cons de_str (da_cons de_str (da_cons de_int (da_cons (de_ix (hu_of hr) (de_add (de_slice (de_listT rfl rfl (c.free 31) (da_cons (de_call0G (g_law_signs c) hr (c.glo 70) (by decide) rfl nx_law_signs) da_nil)) do_none (do_some (de_mod (de_var 2) de_int))) (de_lst (da_cons de_str da_nil))) de_int) da_nil)))))))) (dg_name 5 sc_law.nd) (dss_one (ds_if (dt_ne hr.units (de_told (k := 2) (st := top 41) FT rfl (fun _ _ _ _ _ _ us hl => match us, hl with | [_], _ => rfl) sc_law_told (.inl rfl) rfl rfl rfl (by decide) (g_law_word c) (by decide) (words_ok c) (c.glo 62) (c.glo 63) (c.glo 64) (c.tb ("law", none) (by decide)) hcd (tt_mem (by decide)) (tt_uniq (nodupT_ok (ex_nd c)) (p := ("law", none)) (by decide)) hr (by decide) (LamX.lamS_by (by kernel_rfl)) rfl (fun _ _ _ _ _ => rfl) (fun _ _ _ _ _ _ _ hr => (de_methG (g_Lesson_score c) hr (c.cls 40) (c.meth 77) (tkO rfl rfl rfl rfl) (by decide) (de_var 10) (da_cons (de_var 5) da_nil))) rfl) de_str) (dss_one (ds_ret de_bl)) dss_nil))) (dss_one (ds_if (DW.dt (dw_or (dt_ne hr.units (de_told (k := 1) (st := top 41) FT rfl (fun _ _ _ _ _ _ us hl => match us, hl with | [_], _ => rfl) sc_law_told (.inl rfl) rfl rfl rfl (by decide) (g_law_word c) (by decide) (words_ok c) (c.glo 62) (c.glo 63) (c.glo 64) (c.tb ("law", none) (by decide)) hcd (tt_mem (by decide)) (tt_uniq (nodupT_ok (ex_nd c)) (p := ("law", none)) (by decide)) hr (by decide) (LamX.lamS_by (by kernel_rfl)) rfl (fun _ _ _ _ _ => rfl) (fun _ _ _ _ _ _ _ hr => (de_meth0G (g_Lesson_redo c) hr (c.cls 40) (c.meth 80) (tkO rfl rfl rfl rfl) (by decide) (de_var 10))) rfl) de_str) (dw_or (dt_ne hr.units (de_meth0G (g_Lesson_known c) hr (c.cls 40) (c.meth 79) (tkO rfl rfl rfl rfl) (by decide) (de_var 10)) (de_slice (de_var 4) do_none (do_some de_int))) (dw_or1 (dt_not (dt_val (de_callG (g_law_full_right c) hr (c.glo 78) (tkO rfl rfl rfl rfl) (by decide) rfl (da_cons (de_var 3) da_nil)))))))) (dss_one (ds_ret de_bl)) dss_nil))))))))))))) (dss_one (ds_ret de_bl)))
/-! ### plain readings: the law's cells and draws -/
theorem r_law_cell {S : Store} {ns : List Int} (hl : ns.length ≤ 63) (hb : ∀ z ∈ ns, Builtin.Int.intBits z ≤ 1048576) {k : Nat} (hk : k < 1024) : F_law_cell K [.frz (ns.map .int), .int k] S = .ok (.int (cellZ ns k), S) := by
  have bk : ∀ j : Nat, j < 1024 → (Builtin.Int.intBits (j : Int) : Int) + (Builtin.Int.intBits 104729 : Int) ≤ 134217728 := fun j hj => bits_ok (a := 10) (b := 20) (by rw [Int.natAbs_natCast]; exact hj) (by decide) (by decide)
  have bk2 : (Builtin.Int.intBits (k : Int) : Int) + (Builtin.Int.intBits 7919 : Int) ≤ 134217728 := bits_ok (a := 10) (b := 20) (by rw [Int.natAbs_natCast]; exact hk) (by decide) (by decide)
  unfold cellZ
  cases he : ns.isEmpty with
  | true => simp [F_law_cell, sx_law_cell, eq_nilF, he, bk2]
  | false =>
    have hpos : 0 < ns.length := by
      cases ns with
      | nil => cases he
      | cons _ _ => simp
    have hm : k % ns.length < ns.length := Nat.mod_lt _ hpos
    have e1 : (k : Int) % (ns.length : Int) = ((k % ns.length : Nat) : Int) := by simp
    have e2 : (k : Int) / (ns.length : Int) = ((k / ns.length : Nat) : Int) := by simp
    have e3 : atI (ns.map D.int) ((k % ns.length : Nat) : Int) = some (.int (ns.getD (k % ns.length) 0)) := by
      rw [at_nat (by simpa using hm)]
      simp [List.getD, hm]
    have hg : (0 : Int) < (ns.length : Int) := by omega
    have hlg : ns.length.log2 < 9000 := log_small (by omega)
    have b3 := bk (k / ns.length) (Nat.lt_of_le_of_lt (Nat.div_le_self _ _) hk)
    rw [← e2] at b3
    rw [← e1] at e3
    simp [F_law_cell, sx_law_cell, eq_nilF, he, hg, hpos, hlg, e3, b3]
theorem r_law_drawn {S : Store} {c k : Int} (hc : c.natAbs < 2 ^ 1048578) (h0 : 0 ≤ k) (hk : k < 1048576) : F_law_drawn K [.int c, .int k] S = .ok (.int (drawZ c k), S) := by
  have b1 : (Builtin.Int.intBits c : Int) + (Builtin.Int.intBits 6364136223846793005 : Int) ≤ 134217728 := bits_ok (a := 1048578) (b := 64) hc (by decide) (by decide)
  have b2 : (Builtin.Int.intBits (k + 1) : Int) + (Builtin.Int.intBits 1442695040888963407 : Int) ≤ 134217728 := bits_ok (a := 21) (b := 64) (by omega) (by decide) (by decide)
  unfold drawZ
  have i1 : 0 ≤ (c * 6364136223846793005 + (k + 1) * 1442695040888963407) % 340282366920938463463374607431768211507 ∧ (c * 6364136223846793005 + (k + 1) * 1442695040888963407) % 340282366920938463463374607431768211507 < 340282366920938463463374607431768211507 := ⟨Int.emod_nonneg _ (by decide), Int.emod_lt_of_pos _ (by decide)⟩
  revert i1
  simp [F_law_drawn, sx_law_drawn, b1, b2]
  generalize (c * 6364136223846793005 + (k + 1) * 1442695040888963407) % 340282366920938463463374607431768211507 = m1
  intro i1 i2
  have b3 : (Builtin.Int.intBits m1 : Int) + (Builtin.Int.intBits m1 : Int) ≤ 134217728 := bits_ok (a := 129) (b := 129) (by omega) (by omega) (by decide)
  have i3 : 0 ≤ m1 * m1 % 340282366920938463463374607431768211297 ∧ m1 * m1 % 340282366920938463463374607431768211297 < 340282366920938463463374607431768211297 := ⟨Int.emod_nonneg _ (by decide), Int.emod_lt_of_pos _ (by decide)⟩
  revert i3
  simp [b3]
  generalize m1 * m1 % 340282366920938463463374607431768211297 = m2
  intro i3 i4
  have n1 : (m2 % 18446744073709551557 + 1).natAbs < 2 ^ 65 := by omega
  have n2 : (m2 / 18446744073709551557 + 1).natAbs < 2 ^ 129 := by omega
  have b4 : (Builtin.Int.intBits (m2 % 18446744073709551557 + 1) : Int) + (Builtin.Int.intBits (m2 / 18446744073709551557 + 1) : Int) ≤ 134217728 := bits_ok n1 n2 (by decide)
  have b5 : (Builtin.Int.intBits ((m2 % 18446744073709551557 + 1) * (m2 / 18446744073709551557 + 1)) : Int) + (Builtin.Int.intBits m2 : Int) ≤ 134217728 := bits_ok (natAbs_mul_lt n1 n2) (b := 129) (by omega) (by decide)
  simp [b4, b5]
theorem draw_lt (c k : Int) : (drawZ c k).natAbs < 2 ^ 1048578 := by
  obtain ⟨h1, h2⟩ := drawZ_in c k
  exact lt_up (x := 129) (by omega) (by decide)
theorem draw8_lt (c k : Int) : (drawZ c k / 8).natAbs < 2 ^ 1048578 := by
  obtain ⟨h1, h2⟩ := drawZ_in c k
  exact lt_up (x := 129) (by omega) (by decide)

/-! ### plain readings: books -/
def SG : List Nat := ("abcdefghijklmnopqrstuvwxyz0123456789.,?/=" : Str).cps.toList
def codeB (w : List Nat) : Bool := decide (1 ≤ w.length) && (decide (w.length ≤ 6) && w.all fun c => decide (c ∈ [46, 45]))
theorem code_len {w : List Nat} (h : codeB w = true) : 1 ≤ w.length ∧ w.length ≤ 6 ∧ ∀ c ∈ w, c = 46 ∨ c = 45 := by
  unfold codeB at h
  simp only [Bool.and_eq_true, decide_eq_true_eq, List.all_eq_true, List.mem_cons, List.not_mem_nil, or_false] at h
  exact h
theorem r_is_code {S : Store} {w : List Nat} (hl : w.length ≤ 10000) : F_is_code K [tD w] S = .ok (.bl (codeB w), S) := by
  have hs : (100000 : Nat) ≤ sizeLine := by decide
  have lc := lcL_mapOf (f := fun c : Nat => tD [c]) (h := fun c : Nat => D.bl (decide (c ∈ [46, 45]))) (g := gN 1) (t := txY) (fe := ex2 gIn (exV 1) (exC (.str ".-"))) (ck := none) (ρ := wipeD [some (tD w), none] [1]) (S := S) rfl w [] (fun c hc => ⟨_, rfl, rfl, by have h := in_sign (S := S) c ".-"; rw [show (".-" : Str).cps.toList = [46, 45] from rfl] at h; simp [wipeD] at h ⊢; simp [h]⟩) (by simp only [List.length_nil]; omega)
  rw [List.nil_append] at lc
  have e : (w.map fun c : Nat => D.bl (decide (c ∈ [46, 45]))) = (w.map fun c => decide (c ∈ [46, 45])).map .bl := by rw [List.map_map]; rfl
  rw [e] at lc
  have ga := g_all (S := S) (w.map fun c => decide (c ∈ [46, 45]))
  have gl := len_tD (S := S) (l := w) (by omega)
  have ty := ty_tD (S := S) (l := w)
  have it := items_txt (S := S) w
  have ea : (w.map fun c => decide (c ∈ [46, 45])).all id = w.all fun c => decide (c ∈ [46, 45]) := by rw [List.all_map]; rfl
  rw [ea] at ga
  unfold codeB
  generalize (w.map fun c => decide (c ∈ [46, 45])) = bs at lc ga
  generalize (w.all fun c => decide (c ∈ [46, 45])) = b at ga ⊢
  have hsz : (1 : Int) ≤ (w.length : Int) ↔ 1 ≤ w.length := by omega
  have hsz6 : (w.length : Int) ≤ 6 ↔ w.length ≤ 6 := by omega
  generalize w.map (fun c : Nat => tD [c]) = its at lc it
  generalize tD w = d at *
  by_cases h1 : 1 ≤ w.length
  · by_cases h6 : w.length ≤ 6
    · have h1' := hsz.mpr h1
      have h6' := hsz6.mpr h6
      simp [F_is_code, sx_is_code, ty, gl, h1, h6, h1', h6', exLc, ixV, it, lc, ga]
    · have h1' := hsz.mpr h1
      have h6' : ¬ (w.length : Int) ≤ 6 := fun z => h6 (hsz6.mp z)
      simp [F_is_code, sx_is_code, ty, gl, h1, h6, h1', h6']
  · have h1' : ¬ (1 : Int) ≤ (w.length : Int) := fun z => h1 (hsz.mp z)
    simp [F_is_code, sx_is_code, ty, gl, h1, h1']
theorem r_is_code_no {S : Store} {d : D} {t : String} (ht : tyD S d = some t) (hs : isiB "str" t = false) : F_is_code K [d] S = .ok (.bl false, S) := by
  simp [F_is_code, sx_is_code, ht, hs]
structure BookOk (bk : Bk) : Prop where
  ne : bk ≠ []
  sg : ∀ p ∈ bk, p.1 ∈ SG
  cd : ∀ p ∈ bk, codeB p.2 = true
  ks : (bk.map (·.1)).Nodup
  cs : (bk.map (·.2)).Nodup
  len : bk.length ≤ 41
theorem gix_bk {S : Store} {bk : Bk} {l : List Nat} : gIx S (bkD bk) (tD l) = (bk.find? fun p => decide ([p.1] = l)).map fun p => tD p.2 := by
  rw [← val_bk]
  rfl
theorem gin_bk {S : Store} {bk : Bk} {l : List Nat} : gIn S (tD l) (bkD bk) = some (.bl (bk.find? fun p => decide ([p.1] = l)).isSome) := by
  have : gIn S (tD l) (bkD bk) = some (.bl (valD (kvB bk) (.inr (txt l))).isSome) := rfl
  rw [this, val_bk]
  simp
theorem ne_empty {S : Store} {bk : Bk} (h : bk ≠ []) : gEqE S (bkD bk) (.dct []) = some (.bl false) := by
  show some (D.bl (kvB bk).isEmpty) = _
  unfold kvB
  cases bk with
  | nil => exact absurd rfl h
  | cons _ _ => rfl
theorem r_is_book {S : Store} {bk : Bk} (o : BookOk bk) : F_is_book K [bkD bk] S = .ok (.bl true, S) := by
  have hs : (100000 : Nat) ≤ sizeLine := by decide
  have hl := o.len
  have l1 := lcL_mapOf (f := fun p : Nat × List Nat => tD [p.1]) (h := fun _ => D.bl true) (g := gN 2) (t := txY) (fe := el_is_book_0 K) (ck := none) (ρ := wipeD [some (bkD bk), none, none, none] [2]) (S := S) rfl bk [] (fun p hp => ⟨_, rfl, rfl, by
    have hq := o.sg p hp
    have h1 := len_tD (S := S) (l := [p.1]) (by simp)
    have h2 := in_sign (S := S) p.1 "abcdefghijklmnopqrstuvwxyz0123456789.,?/="
    have h3 : decide (p.1 ∈ ("abcdefghijklmnopqrstuvwxyz0123456789.,?/=" : Str).cps.toList) = true := decide_eq_true hq
    rw [h3] at h2
    simp [el_is_book_0, wipeD, ty_tD, h1, h2]⟩) (by simp only [List.length_nil]; omega)
  have l2 := lcL_mapOf (f := fun p : Nat × List Nat => tD [p.1]) (h := fun p => tD p.2) (g := gN 2) (t := txY) (fe := ex2 gIx (exV 0) (exV 2)) (ck := none) (ρ := wipeD [some (bkD bk), none, none, none] [2]) (S := S) rfl bk [] (fun p hp => ⟨_, rfl, rfl, by
    have hx := gix_bk (S := S) (bk := bk) (l := [p.1])
    rw [find_key o.ks hp] at hx
    simp [wipeD, hx]⟩) (by simp only [List.length_nil]; omega)
  have l3 := lcL_mapOf (f := fun p : Nat × List Nat => tD p.2) (h := fun _ => D.bl true) (g := gN 3) (t := txY) (fe := exF 1 (F_is_code K) (axC (exV 3) axN)) (ck := none) (ρ := wipeD [some (bkD bk), some (.lst (bk.map fun p => tD p.2)), none, none] [3]) (S := S) rfl bk [] (fun p hp => ⟨_, rfl, rfl, by
    have hc := o.cd p hp
    have := r_is_code (K := K) (S := S) (w := p.2) (by have := (code_len hc).2.1; omega)
    rw [hc] at this
    simp [wipeD, this]⟩) (by simp only [List.length_nil]; omega)
  rw [List.nil_append] at l1 l2 l3
  have ea : (bk.map fun _ => D.bl true) = (bk.map fun _ => true).map .bl := by rw [List.map_map]; rfl
  have ga := g_all (S := S) (bk.map fun _ => true)
  have e1 : (bk.map fun _ => true).all id = true := by simp
  rw [e1] at ga
  rw [ea] at l1 l3
  have kb := keys_bk bk
  have ne := ne_empty (S := S) o.ne
  have ty : tyD S (bkD bk) = some "dict" := rfl
  have dv : dctV (some (some (bkD bk))) = some (kvB bk) := rfl
  have ls : (lstOf S (.lst (bk.map fun p => tD p.2))).bind strsOf = some (bk.map fun p => txt p.2) := by
    rw [lstOf_lst, Option.bind_some]
    have := strsOf_txt (bk.map (·.2))
    rw [List.map_map, List.map_map] at this
    exact this
  have ms : DL.Lib.metS (bk.map fun p => txt p.2) = bk.map fun p => txt p.2   := metS_nodup (by
    have : (bk.map fun p => txt p.2) = (bk.map (·.2)).map txt := by rw [List.map_map]; rfl
    rw [this]
    exact List.Pairwise.map _ (fun a b hab z => hab (txt_inj z)) o.cs)
  have sb : bk.length + 1 < scanBound := by
    have : scanBound = 4096 := rfl
    omega
  rw [← kb] at l1 l2
  generalize (bk.map fun _ => true).map D.bl = TR at *
  have lz : ((bk.map fun p => txt p.2).length : Int) = (bk.length : Int) := by simp
  have hlen : (bk.map fun p => txt p.2).length = bk.length := by simp
  have hlen2 : (bk.map fun p => tD p.2).length = bk.length := by simp
  rw [lstOf_lst, Option.bind_some] at ls
  generalize (bk.map fun p => tD p.2) = CD at *
  generalize (bk.map fun p => txt p.2) = CT at *
  rw [kb] at l1 l2
  generalize bkD bk = d at *
  simp [F_is_book, sx_is_book, ty, ne, exD0, exLcN, dv, kb, noX, l1, ga, l2, exLc, ixV, itemsOf, l3, exLenSet, ls, ms, hlen, hlen2, sb]
theorem r_need_book {S : Store} {bk : Bk} (o : BookOk bk) : F_need_book K [bkD bk] S = .ok (.non, S) := by
  simp [F_need_book, sx_need_book, r_is_book o]
/-- the sign of a code -/
def nmB (bk : Bk) (w : List Nat) : D := match bk.find? (fun p => decide (p.2 = w)) with
  | some p => tD [p.1]
  | none => .non
theorem r_named {S : Store} {bk : Bk} (o : BookOk bk) (w : List Nat) : F_named K [bkD bk, tD w] S = .ok (nmB bk w, S) := by
  have key : ∀ (r : Bk), (∀ p ∈ r, p ∈ bk) → ∀ x : Option D, ∃ y, forL (gN 2) (lp_named_0 K) none (r.map fun p => tD [p.1]) [some (bkD bk), some (tD w), x] S = (match r.find? (fun p => decide (p.2 = w)) with
      | some p => .ok (.rt (tD [p.1]), [some (bkD bk), some (tD w), y], S)
      | none => .ok (.nx, [some (bkD bk), some (tD w), y], S)) := by
    intro r
    induction r with
    | nil => intro _ x; exact ⟨x, rfl⟩
    | cons p r ih =>
      intro h x
      have hx := gix_bk (S := S) (bk := bk) (l := [p.1])
      rw [find_key o.ks (h p List.mem_cons_self)] at hx
      have eq := eq_tD (S := S) (a := p.2) (b := w)
      simp only [Option.map_some] at hx
      by_cases e : p.2 = w
      · refine ⟨some (tD [p.1]), ?_⟩
        rw [List.find?_cons_of_pos (by simpa using e), List.map_cons, forL]
        rw [e] at eq hx
        generalize tD w = dw at *
        simp [lp_named_0, hx, eq]
      · obtain ⟨y, ih⟩ := ih (fun q hq => h q (List.mem_cons_of_mem _ hq)) (some (tD [p.1]))
        refine ⟨y, ?_⟩
        rw [List.find?_cons_of_neg (by simpa using e), List.map_cons, forL]
        rw [← ih]
        have hb : (p.2 == w) = false := by simpa using e
        rw [hb] at eq
        generalize tD w = dw at *
        simp [lp_named_0, hx, eq, ckB]
  obtain ⟨y, e⟩ := key bk (fun p hp => hp) none
  have kb := keys_bk bk
  rw [← kb] at e
  have dv : dctV (some (some (bkD bk))) = some (kvB bk) := rfl
  unfold nmB
  revert e
  cases bk.find? (fun p => decide (p.2 = w)) with
  | none =>
    intro e
    generalize bkD bk = d at *
    generalize tD w = dw at *
    simp [F_named, sx_named, sxForN, dv, e, noX]
  | some p =>
    intro e
    generalize bkD bk = d at *
    generalize tD w = dw at *
    simp [F_named, sx_named, sxForN, dv, e, noX]

open TL (spl joinL)
/-! ### texts and rows -/
theorem len_joinL2 (s : List Nat) : ∀ ws : List (List Nat), ws ≠ [] → (joinL s ws).length + s.length = (ws.map List.length).sum + ws.length * s.length
  | [], h => absurd rfl h
  | [w], _ => by simp [joinL]
  | w :: v :: r, _ => by
    have ih := len_joinL2 s (v :: r) (by simp)
    show (w ++ (s ++ joinL s (v :: r))).length + s.length = _
    simp only [List.length_append, List.map_cons, List.sum_cons, List.length_cons, Nat.add_mul, Nat.one_mul] at ih ⊢
    omega
/-- words of a text: not longer, not more -/
theorem spl1_len (l : List Nat) : ((spl [32] 0 [] l).map List.length).sum ≤ l.length ∧ (spl [32] 0 [] l).length ≤ l.length + 1 := by
  have h := len_joinL2 [32] (spl [32] 0 [] l) (spl_ne _ _ _ _)
  rw [joinL_spl1] at h
  simp only [List.length_cons, List.length_nil, Nat.mul_one] at h
  have : 1 ≤ (spl [32] 0 [] l).length := List.length_pos_iff.mpr (spl_ne _ _ _ _)
  omega
theorem spl3_len (l : List Nat) : ((spl [32, 47, 32] 0 [] l).map List.length).sum ≤ l.length ∧ (spl [32, 47, 32] 0 [] l).length ≤ l.length + 1 := by
  have h := len_joinL2 [32, 47, 32] (spl [32, 47, 32] 0 [] l) (spl_ne _ _ _ _)
  rw [joinL_spl3] at h
  simp only [List.length_cons, List.length_nil] at h
  have : 1 ≤ (spl [32, 47, 32] 0 [] l).length := List.length_pos_iff.mpr (spl_ne _ _ _ _)
  omega
theorem mem_sum {ws : List (List Nat)} {w : List Nat} (h : w ∈ ws) : w.length ≤ (ws.map List.length).sum := by
  induction ws with
  | nil => cases h
  | cons v r ih =>
    rw [List.map_cons, List.sum_cons]
    rcases List.mem_cons.mp h with rfl | h
    · omega
    · have := ih h
      omega
theorem sum_map_le {α : Type} (f : α → List Nat) (b : Nat) : ∀ xs : List α, (∀ x ∈ xs, (f x).length ≤ b) → ((xs.map f).map List.length).sum ≤ xs.length * b
  | [], _ => by simp
  | x :: xs, h => by
    have h1 := h x List.mem_cons_self
    have h2 := sum_map_le f b xs fun y hy => h y (List.mem_cons_of_mem _ hy)
    simp only [List.map_cons, List.sum_cons, List.length_cons, Nat.add_mul, Nat.one_mul]
    omega
def hasB (bk : Bk) (c : Nat) : Bool := (bk.find? fun p => decide ([p.1] = [c])).isSome
def wordB (bk : Bk) (w : List Nat) : Bool := !(w == []) && w.all (hasB bk)
def textB (bk : Bk) (l : List Nat) : Bool := decide (1 ≤ l.length) && (decide (l.length ≤ 60) && (spl [32] 0 [] l).all (wordB bk))

open TL (spl joinL)
def codB (bk : Bk) (c : Nat) : List Nat := match bk.find? (fun p => decide ([p.1] = [c])) with
  | some p => p.2
  | none => []
def partB (bk : Bk) (w : List Nat) : List Nat := joinL [32] (w.map (codB bk))
def rowB (bk : Bk) (l : List Nat) : List Nat := joinL [32, 47, 32] ((spl [32] 0 [] l).map (partB bk))
theorem codB_le {bk : Bk} (o : BookOk bk) (c : Nat) : (codB bk c).length ≤ 6 := by
  unfold codB
  split
  · rename_i p e
    exact (code_len (o.cd p (List.mem_of_find?_eq_some e))).2.1
  · simp
theorem joinL_le (s : List Nat) (b : Nat) (ws : List (List Nat)) (h : ∀ w ∈ ws, w.length ≤ b) : (joinL s ws).length ≤ ws.length * (b + s.length) := by
  have h1 := joinL_len s ws
  have h2 := sum_map_le (f := fun w : List Nat => w) b ws h
  rw [List.map_id'] at h2
  rw [Nat.mul_add]
  omega
theorem partB_le {bk : Bk} (o : BookOk bk) (w : List Nat) : (partB bk w).length ≤ w.length * 7 := by
  have := joinL_le [32] 6 (w.map (codB bk)) (fun x hx => by obtain ⟨c, _, rfl⟩ := List.mem_map.mp hx; exact codB_le o c)
  rw [List.length_map] at this
  exact this
theorem gix_sign {S : Store} {bk : Bk} {c : Nat} (h : hasB bk c = true) : gIx S (bkD bk) (tD [c]) = some (tD (codB bk c)) := by
  rw [gix_bk]
  unfold hasB at h
  unfold codB
  cases e : bk.find? (fun p => decide ([p.1] = [c])) with
  | none => rw [e] at h; cases h
  | some p => rfl
/-- a word as codes -/
theorem ev_part {S : Store} {bk : Bk} (o : BookOk bk) {w : List Nat} (hw : w.all (hasB bk) = true) (hl : w.length ≤ 1000) {g : Gx} {fe : Ex} {ρ : DEnv} (hfe : ∀ c : Nat, ∃ ρ1, g (tD [c]) ρ = some ρ1 ∧ ∀ x, gIx S (bkD bk) (tD [c]) = some x → fe ρ1 S = .ok (x, S)) :
    lcL g txY fe none ρ (w.map fun c : Nat => tD [c]) [] S = .ok ((w.map (codB bk)).map tD, S) ∧ gJoin S (.str " ") (.lst ((w.map (codB bk)).map tD)) = some (tD (partB bk w)) := by
  have hs : (100000 : Nat) ≤ sizeLine := by decide
  constructor
  · have lc := lcL_mapOf (f := fun c : Nat => tD [c]) (h := fun c : Nat => tD (codB bk c)) (g := g) (t := txY) (fe := fe) (ck := none) (ρ := ρ) (S := S) rfl w [] (fun c hc => by
      obtain ⟨ρ1, e1, e2⟩ := hfe c
      exact ⟨ρ1, e1, rfl, e2 _ (gix_sign (List.all_eq_true.mp hw c hc))⟩) (by simp only [List.length_nil]; omega)
    rw [List.nil_append] at lc
    rw [lc, List.map_map]
    rfl
  · exact g_join1 (by
      have h1 := sum_map_le (codB bk) 6 w fun c _ => codB_le o c
      rw [List.length_map]
      omega)
/-- the sign that a code tells -/
def sgB (bk : Bk) (w : List Nat) : List Nat := match bk.find? (fun p => decide (p.2 = w)) with
  | some p => [p.1]
  | none => [35]
theorem sgB_len (bk : Bk) (w : List Nat) : (sgB bk w).length = 1 := by unfold sgB; split <;> rfl
def wordR (bk : Bk) (part : List Nat) : List Nat := joinL [] ((spl [32] 0 [] part).map (sgB bk))
def textR (bk : Bk) (r : List Nat) : List Nat := joinL [32] ((spl [32, 47, 32] 0 [] r).map (wordR bk))
theorem wordR_len (bk : Bk) (part : List Nat) : (wordR bk part).length ≤ part.length + 1 := by
  unfold wordR
  have := joinL_le [] 1 ((spl [32] 0 [] part).map (sgB bk)) (fun x hx => by obtain ⟨c, _, rfl⟩ := List.mem_map.mp hx; rw [sgB_len]; exact Nat.le_refl _)
  rw [List.length_map] at this
  obtain ⟨s1, s2⟩ := spl1_len part
  simp only [List.length_nil, Nat.add_zero, Nat.mul_one] at this
  omega
theorem is_nm {S : Store} (bk : Bk) (w : List Nat) : gIs S (nmB bk w) .non = some (.bl (bk.find? (fun p => decide (p.2 = w))).isNone) := by
  unfold nmB
  cases bk.find? (fun p => decide (p.2 = w)) <;> rfl
theorem r_text_of_row {S : Store} {bk : Bk} (o : BookOk bk) {r : List Nat} (hl : r.length ≤ 10000) : F_text_of_row K [bkD bk, tD r] S = .ok (tD (textR bk r), S) := by
  have hs : (100000 : Nat) ≤ sizeLine := by decide
  obtain ⟨s1, s2⟩ := spl3_len r
  obtain ⟨ρ', S', e, a3, a4, a5, a6, i1, i2⟩ := forL_pre (spl [32, 47, 32] 0 [] r) (f := tD) (g := gN 3) (s := lp_text_of_row_1 K) (ck := none) (I := fun prs ρ S' => ∃ a3 a4 a5 a6, ρ = [some (bkD bk), some (tD r), some (.loc S.length), a3, a4, a5, a6] ∧ S' = S ++ [.lst ((prs.map (wordR bk)).map tD)])
    (ρ := [some (bkD bk), some (tD r), some (.loc S.length), none, none, none, none]) (S := S ++ [.lst []]) ⟨_, _, _, _, rfl, rfl⟩ (fun prs part post hp ρ S1 ⟨a3, a4, a5, a6, e1, e2⟩ => by
      subst e1 e2
      have hm : part ∈ spl [32, 47, 32] 0 [] r := by rw [hp]; simp
      have hpl := mem_sum hm
      have hlp : prs.length < (spl [32, 47, 32] 0 [] r).length := by rw [hp]; simp
      obtain ⟨t1, t2⟩ := spl1_len part
      generalize hA : (prs.map (wordR bk)).map tD = acc
      have hAl : acc.length = prs.length := by rw [← hA]; simp
      have l1 := lcL_mapOf (f := tD) (h := fun w => nmB bk w) (g := gN 5) (t := txY) (fe := exF 2 (F_named K) (axC (exV 0) (axC (exV 5) axN))) (ck := none) (ρ := wipeD [some (bkD bk), some (tD r), some (.loc S.length), some (tD part), a4, a5, a6] [5]) (S := S ++ [.lst acc]) rfl (spl [32] 0 [] part) [] (fun w hw => ⟨_, rfl, rfl, by
        have := r_named (K := K) (S := S ++ [.lst acc]) o w
        simp only [wipeD]
        simp [this]⟩) (by simp only [List.length_nil]; omega)
      have l2 := lcL_mapOf (f := fun w => nmB bk w) (h := fun w => tD (sgB bk w)) (g := gN 6) (t := txY) (fe := el_text_of_row_0 K) (ck := none) (ρ := wipeD [some (bkD bk), some (tD r), some (.loc S.length), some (tD part), some (.lst ((spl [32] 0 [] part).map fun w => nmB bk w)), a5, a6] [6]) (S := S ++ [.lst acc]) rfl (spl [32] 0 [] part) [] (fun w hw => ⟨_, rfl, rfl, by
        have h := is_nm (S := S ++ [.lst acc]) bk w
        simp only [wipeD]
        unfold nmB sgB at *
        cases e0 : bk.find? (fun p => decide (p.2 = w)) with
        | none =>
          rw [e0] at h
          simp [el_text_of_row_0] at h ⊢
          simp [h]
          rfl
        | some p =>
          rw [e0] at h
          simp [el_text_of_row_0] at h ⊢
          simp [h]⟩) (by simp only [List.length_nil]; omega)
      rw [List.nil_append] at l1 l2
      have e2 : ((spl [32] 0 [] part).map fun w => tD (sgB bk w)) = ((spl [32] 0 [] part).map (sgB bk)).map tD := by rw [List.map_map]; rfl
      rw [e2] at l2
      have jn := g_join0 (S := S ++ [.lst acc]) (ws := (spl [32] 0 [] part).map (sgB bk)) (by
        have h1 := sum_map_le (sgB bk) 1 (spl [32] 0 [] part) fun w _ => by rw [sgB_len]; exact Nat.le_refl _
        omega)
      have sp := g_split1 (S := S ++ [.lst acc]) (l := part) (by omega)
      have is1 : isStr (S ++ [.lst acc]) (.str "") = true := rfl
      have is : isStr (S ++ [.lst acc]) (tD part) = true := rfl
      have il := isl_end (S := S) (acc := acc)
      have ap := app_end (S := S) (acc := acc) (d := tD (wordR bk part)) (by omega)
      have hw : tD (joinL [] ((spl [32] 0 [] part).map (sgB bk))) = tD (wordR bk part) := rfl
      rw [hw] at jn
      refine ⟨_, rfl, [some (bkD bk), some (tD r), some (.loc S.length), some (tD part), some (.lst ((spl [32] 0 [] part).map fun w => nmB bk w)), a5, a6], S ++ [.lst (acc ++ [tD (wordR bk part)])], .inl ?_, rfl, _, _, _, _, rfl, by rw [← hA]; simp⟩
      simp only [List.set_cons_zero, List.set_cons_succ]
      generalize ((spl [32] 0 [] part).map fun w => nmB bk w) = NM at *
      generalize (((spl [32] 0 [] part).map (sgB bk)).map tD) = SGS at *
      generalize (spl [32] 0 [] part).map tD = its at *
      generalize tD (wordR bk part) = wd at *
      generalize tD part = pd at *
      generalize tD r = dr at *
      generalize bkD bk = db at *
      simp only [wipeD] at l1 l2
      simp [lp_text_of_row_1, is, is1, sp, exLc, ixV, itemsOf, wipeD, il] at l1 l2 ⊢
      simp [l1, l2, jn, ap, il, is, is1])
  subst i1 i2
  have sp := g_split3 (S := S ++ [.lst []]) (l := r) (by omega)
  have is : isStr (S ++ [.lst []]) (tD r) = true := rfl
  have is1 : isStr (S ++ [.lst (((spl [32, 47, 32] 0 [] r).map (wordR bk)).map tD)]) (.str " ") = true := rfl
  have jn := g_join (S := S ++ [.lst (((spl [32, 47, 32] 0 [] r).map (wordR bk)).map tD)]) (s := [32]) (ws := (spl [32, 47, 32] 0 [] r).map (wordR bk)) (x := .loc S.length) (by
    unfold seqOf
    exact lst_end) (by
    have h1 := sum_map_le (wordR bk) 1 (spl [32, 47, 32] 0 [] r)
    have h2 : ∀ ws : List (List Nat), ((ws.map (wordR bk)).map List.length).sum ≤ (ws.map List.length).sum + ws.length := fun ws => by
      induction ws with
      | nil => simp
      | cons w ws ih =>
        have := wordR_len bk w
        simp only [List.map_cons, List.sum_cons, List.length_cons]
        omega
    have h3 := h2 (spl [32, 47, 32] 0 [] r)
    simp only [List.length_map, List.length_cons, List.length_nil]
    omega)
  have e32 : (.str (txt [32]) : D) = .str " " := rfl
  rw [e32] at jn
  refine ownF_same (g := [.lst (((spl [32, 47, 32] 0 [] r).map (wordR bk)).map tD)]) ?_ rfl
  have hw : tD (joinL [32] ((spl [32, 47, 32] 0 [] r).map (wordR bk))) = tD (textR bk r) := rfl
  rw [hw] at jn
  generalize ((spl [32, 47, 32] 0 [] r).map (wordR bk)).map tD = acc at *
  generalize (spl [32, 47, 32] 0 [] r).map tD = its at *
  generalize tD r = dr at *
  generalize bkD bk = db at *
  simp [sx_text_of_row, sxFor, ixV, itemsOf, is, sp, e, is1, jn]

open TL (spl joinL)
/-! ### the law's codes and books -/
def codeF : Nat → Nat → List Nat
  | 0, _ => []
  | k + 1, n => if 1 < n then codeF k (n / 2) ++ [if n % 2 = 0 then 46 else 45] else []
def codeL (n : Nat) : List Nat := codeF 7 n
theorem codeL_ok : ∀ n : Nat, n < 128 → 2 ≤ n → codeB (codeL n) = true := by decide +kernel
theorem codeL_inj0 : ((List.range 128).drop 2).Pairwise fun a b => codeL a ≠ codeL b := by decide +kernel
theorem codeL_inj {a b : Nat} (ha : a < 128) (ha2 : 2 ≤ a) (hb : b < 128) (hb2 : 2 ≤ b) (h : codeL a = codeL b) : a = b := by
  have key : ∀ a b : Nat, a < b → 2 ≤ a → b < 128 → codeL a ≠ codeL b := fun a b hab ha hb => by
    have hp := codeL_inj0
    rw [List.pairwise_iff_getElem] at hp
    have := hp (a - 2) (b - 2) (by simp; omega) (by simp; omega) (by omega)
    simpa [show 2 + (a - 2) = a by omega, show 2 + (b - 2) = b by omega] using this
  rcases Nat.lt_trichotomy a b with z | z | z
  · exact absurd h (key a b z ha2 hb)
  · exact z
  · exact absurd h.symm (key b a z hb2 ha)
theorem wh_code {S : Store} : ∀ (k n j : Nat) (acc : List Nat), n < 2 ^ k → acc.length + k ≤ 1000 → ∃ x, whL (tx (ex2 gGt (exV 0) (exC (.int 1)))) (wh_law_code_0 K) (k + 1 + j) [some (.int (n : Int)), some (tD acc)] S = .ok (.nx, [x, some (tD (codeF k n ++ acc))], S)
  | 0, n, j, acc, h, _ => by
    have : ¬ (1 : Int) < (n : Int) := by simp at h; omega
    refine ⟨some (.int (n : Int)), ?_⟩
    rw [show 0 + 1 + j = j + 1 by omega, whL]
    have e : codeF 0 n ++ acc = acc := rfl
    rw [e]
    generalize tD acc = d
    simp [this]
  | k + 1, n, j, acc, h, hl => by
    have hs : (100000 : Nat) ≤ sizeLine := by decide
    rw [show k + 1 + 1 + j = (k + 1 + j) + 1 by omega, whL]
    by_cases h1 : 1 < n
    · have h1' : (1 : Int) < (n : Int) := by omega
      obtain ⟨x, ih⟩ := wh_code (S := S) k (n / 2) j ([if n % 2 = 0 then 46 else 45] ++ acc) (by rw [Nat.pow_succ] at h; omega) (by simp; omega)
      refine ⟨x, ?_⟩
      have e : codeF (k + 1) n ++ acc = codeF k (n / 2) ++ ([if n % 2 = 0 then 46 else 45] ++ acc) := by
        show (if 1 < n then codeF k (n / 2) ++ [if n % 2 = 0 then 46 else 45] else []) ++ acc = _
        rw [if_pos h1, List.append_assoc]
      rw [e]
      rw [show ((n / 2 : Nat) : Int) = (n : Int) / 2 by omega] at ih
      rw [← ih]
      have ad := fun c : Nat => add_tD (S := S) (a := [c]) (b := acc) (by simp; omega)
      have g0 : gIx S (.str ".-") (.int 0) = some (tD [46]) := rfl
      have g1 : gIx S (.str ".-") (.int 1) = some (tD [45]) := rfl
      have hm : n % 2 = 0 ∨ n % 2 = 1 := by omega
      rcases hm with hm | hm
      · have hmi : (n : Int) % 2 = 0 := by omega
        have ad0 := ad 46
        rw [if_pos hm]
        generalize tD ([46] ++ acc) = r at *
        generalize tD [46] = d0 at *
        generalize tD acc = d at *
        simp [h1', wh_law_code_0, hmi, g0, ad0]
      · have hmi : (n : Int) % 2 = 1 := by omega
        have hm' : ¬ n % 2 = 0 := by omega
        have ad0 := ad 45
        rw [if_neg hm']
        generalize tD ([45] ++ acc) = r at *
        generalize tD [45] = d0 at *
        generalize tD acc = d at *
        simp [h1', wh_law_code_0, hmi, g1, ad0]
    · have h1' : ¬ (1 : Int) < (n : Int) := by omega
      refine ⟨some (.int (n : Int)), ?_⟩
      have e : codeF (k + 1) n ++ acc = acc := by
        show (if 1 < n then _ else []) ++ acc = _
        rw [if_neg h1, List.nil_append]
      rw [e]
      generalize tD acc = d
      simp [h1']
theorem r_law_code {S : Store} {n : Nat} (h : n < 128) : F_law_code K [.int (n : Int)] S = .ok (tD (codeL n), S) := by
  obtain ⟨x, w⟩ := wh_code (K := K) (S := S) 7 n 0 [] (by omega) (by simp)
  have w2 := sxWh_eq (n := 8) (by unfold fuel; omega) w (by intro z; cases z)
  rw [List.append_nil] at w2
  have e0 : tD [] = .str "" := rfl
  rw [e0] at w2
  have e1 : codeF 7 n = codeL n := rfl
  rw [e1] at w2
  generalize tD (codeL n) = r at *
  simp [F_law_code, sx_law_code, w2]
theorem cells3 {S : Store} {A B C : Cell} : (S ++ [A, B, C])[S.length]? = some A ∧ (S ++ [A, B, C])[S.length + 1]? = some B ∧ (S ++ [A, B, C])[S.length + 2]? = some C := by
  refine ⟨?_, ?_, ?_⟩ <;> (rw [List.getElem?_append_right (by omega)]; simp)
theorem set3 {S : Store} {A B C X : Cell} : (S ++ [A, B, C]).set S.length X = S ++ [X, B, C] ∧ (S ++ [A, B, C]).set (S.length + 1) X = S ++ [A, X, C] ∧ (S ++ [A, B, C]).set (S.length + 2) X = S ++ [A, B, X] := by
  refine ⟨?_, ?_, ?_⟩ <;> (rw [List.set_append_right _ _ (by omega)]; simp)
theorem erase_map {α β : Type} (f : α → β) : ∀ (xs : List α) (i : Nat), (xs.map f).eraseIdx i = (xs.eraseIdx i).map f
  | [], _ => rfl
  | x :: xs, 0 => rfl
  | x :: xs, i + 1 => by
    show f x :: (xs.map f).eraseIdx i = f x :: (xs.eraseIdx i).map f
    rw [erase_map f xs i]
theorem pop_map {α : Type} {f : α → D} {S : Store} {n : Nat} {xs : List α} (hn : S[n]? = some (.lst (xs.map f))) {i : Nat} (hi : i < xs.length) (hi2 : (i : Int) < 9223372036854775808) : isList S (.loc n) = true ∧ gPopAt S (.loc n) [.int (i : Int)] = some (f xs[i], S.set n (.lst ((xs.eraseIdx i).map f))) := by
  constructor
  · unfold isList lstOf
    simp only [hn]
    rfl
  · unfold gPopAt
    simp only [hn, cellL]
    rw [if_pos ⟨by omega, by simpa using hi2⟩]
    have e1 : (xs.map f)[((i : Int)).toNat]? = some (f xs[i]) := by simp [hi]
    rw [e1]
    have e2 : (xs.map f).eraseIdx ((i : Int)).toNat = (xs.eraseIdx i).map f := by
      rw [show ((i : Int)).toNat = i by omega, erase_map]
    dsimp only
    rw [e2]
theorem len_loc {S : Store} {n : Nat} {ds : List D} (hn : S[n]? = some (.lst ds)) : gLen S [.loc n] = some (.int (ds.length : Int)) := by
  have e : lstOf S (.loc n) = some ds := by
    show cellL S[n]? = _
    rw [hn]; rfl
  unfold gLen lenD
  dsimp only
  rw [e]
  rfl
theorem put_new {bk : Bk} {c : Nat} {w : List Nat} (h : ∀ p ∈ bk, p.1 ≠ c) : putD (kvB bk) (.inr (txt [c])) (tD w) = kvB (bk ++ [(c, w)]) := by
  unfold putD mergeD.putD
  have : ((kvB bk).any fun kv => decide (kv.1 = (.inr (txt [c]) : Key))) = false := by
    rw [List.any_eq_false]
    intro a ha
    unfold kvB at ha
    obtain ⟨p, hp, rfl⟩ := List.mem_map.mp ha
    have := h p hp
    simp only [Sum.inr.injEq, decide_eq_true_eq]
    intro z
    have := txt_inj z
    simp at this
    exact h p hp this
  rw [this]
  unfold kvB
  rw [List.map_append]
  rfl
structure BInv (x : Nat) (ss cs : List Nat) (bk : Bk) : Prop where
  sn : ss.Nodup
  sg : ∀ c ∈ ss, c ∈ SG
  sl : ss.length + x = 41
  cn : cs.Nodup
  cr : ∀ n ∈ cs, 2 ≤ n ∧ n < 128
  ks : (bk.map (·.1)).Nodup
  kg : ∀ p ∈ bk, p.1 ∈ SG ∧ p.1 ∉ ss
  cd : ∃ ns : List Nat, bk.map (·.2) = ns.map codeL ∧ ns.Nodup ∧ (∀ n ∈ ns, 2 ≤ n ∧ n < 128 ∧ n ∉ cs)
  bl : bk.length = x
  cl : cs.length ≤ 128
theorem nodup_erase {xs : List Nat} (h : xs.Nodup) {i : Nat} (hi : i < xs.length) : (xs.eraseIdx i).Nodup ∧ xs[i] ∉ xs.eraseIdx i ∧ (∀ c ∈ xs.eraseIdx i, c ∈ xs) := by
  have hs := List.eraseIdx_sublist xs i
  refine ⟨h.sublist hs, fun hm => ?_, fun c hc => hs.subset hc⟩
  rw [List.mem_eraseIdx_iff_getElem] at hm
  obtain ⟨j, hj, hne, he⟩ := hm
  have pw := List.pairwise_iff_getElem.mp h
  rcases Nat.lt_trichotomy i j with z | z | z
  · exact pw i j hi hj z he.symm
  · exact hne z.symm
  · exact pw j i hj hi z he
theorem BInv.step {x : Nat} {ss cs : List Nat} {bk : Bk} (h : BInv x ss cs bk) {i j : Nat} (hi : i < cs.length) (hj : j < ss.length) : BInv (x + 1) (ss.eraseIdx j) (cs.eraseIdx i) (bk ++ [(ss[j], codeL cs[i])]) := by
  obtain ⟨c1, c2, c3⟩ := nodup_erase h.cn hi
  obtain ⟨s1, s2, s3⟩ := nodup_erase h.sn hj
  have hci := List.getElem_mem hi
  have hsj := List.getElem_mem hj
  obtain ⟨ns, n1, n2, n3⟩ := h.cd
  refine ⟨s1, fun c hc => h.sg c (s3 c hc), ?_, c1, fun n hn => h.cr n (c3 n hn), ?_, ?_, ⟨ns ++ [cs[i]], ?_, ?_, ?_⟩, ?_, ?_⟩
  · rw [List.length_eraseIdx_of_lt hj]
    have := h.sl
    omega
  · rw [List.map_append]
    refine List.nodup_append.mpr ⟨h.ks, by simp, fun a ha b hb => ?_⟩
    simp only [List.map_cons, List.map_nil, List.mem_singleton] at hb
    subst hb
    obtain ⟨p, hp, rfl⟩ := List.mem_map.mp ha
    intro z
    exact (h.kg p hp).2 (z ▸ hsj)
  · intro p hp
    rcases List.mem_append.mp hp with hp | hp
    · exact ⟨(h.kg p hp).1, fun z => (h.kg p hp).2 (s3 _ z)⟩
    · simp only [List.mem_singleton] at hp
      subst hp
      exact ⟨h.sg _ hsj, s2⟩
  · rw [List.map_append, n1, List.map_append]
    rfl
  · refine List.nodup_append.mpr ⟨n2, by simp, fun a ha b hb => ?_⟩
    simp only [List.mem_singleton] at hb
    subst hb
    intro z
    exact (n3 a ha).2.2 (z ▸ hci)
  · intro n hn
    rcases List.mem_append.mp hn with hn | hn
    · exact ⟨(n3 n hn).1, (n3 n hn).2.1, fun z => (n3 n hn).2.2 (c3 n z)⟩
    · simp only [List.mem_singleton] at hn
      subst hn
      exact ⟨(h.cr _ hci).1, (h.cr _ hci).2, c2⟩
  · simp [h.bl]
  · rw [List.length_eraseIdx_of_lt hi]
    have := h.cl
    omega
theorem BInv.ok {x : Nat} {ss cs : List Nat} {bk : Bk} (h : BInv x ss cs bk) (hx : bk ≠ []) : BookOk bk := by
  obtain ⟨ns, n1, n2, n3⟩ := h.cd
  refine ⟨hx, fun p hp => (h.kg p hp).1, fun p hp => ?_, h.ks, ?_, by have := h.sl; have := h.bl; omega⟩
  · have : p.2 ∈ ns.map codeL := by rw [← n1]; exact List.mem_map_of_mem hp
    obtain ⟨n, hn, e⟩ := List.mem_map.mp this
    rw [← e]
    exact codeL_ok n (n3 n hn).2.1 (n3 n hn).1
  · rw [n1]
    refine List.pairwise_map.mpr (n2.imp_of_mem fun ha hb hab z => hab ?_)
    exact codeL_inj (n3 _ ha).2.1 (n3 _ ha).1 (n3 _ hb).2.1 (n3 _ hb).1 z

/-! ### plain readings: runs -/
def runD (p : Bool × Int) : D := .tup [.bl p.1, .int p.2]
def altB : List (Bool × Int) → Bool
  | [] => true
  | [_] => true
  | a :: b :: r => (a.1 != b.1) && altB (b :: r)
structure RunsOk (rs : List (Bool × Int)) : Prop where
  len : rs.length ≤ 1000
  ticks : ∀ p ∈ rs, 1 ≤ p.2 ∧ p.2 ≤ 2000
  alt : altB rs = true
theorem r_is_count {S : Store} {i lo hi : Int} : F_is_count K [.int i, .int lo, .int hi] S = .ok (.bl (decide (lo ≤ i) && decide (i ≤ hi)), S) := by
  simp [F_is_count, sx_is_count]
  by_cases h : lo ≤ i <;> simp [h]
theorem r_need_unit {S : Store} {u : Int} (h1 : 1 ≤ u) (h9 : u ≤ 9) : F_need_unit K [.int u] S = .ok (.non, S) := by
  simp [F_need_unit, sx_need_unit, r_is_count, h1, h9]
theorem zip_alt : ∀ {rs : List (Bool × Int)}, altB rs = true → ∀ p ∈ rs.dropLast.zip rs.tail, (p.1.1 == p.2.1) = false
  | [], _, p, hp => by cases hp
  | [_], _, p, hp => by cases hp
  | a :: b :: r, h, p, hp => by
    simp only [altB, Bool.and_eq_true] at h
    have e : (a :: b :: r).dropLast.zip (a :: b :: r).tail = (a, b) :: (b :: r).dropLast.zip (b :: r).tail := rfl
    rw [e] at hp
    rcases List.mem_cons.mp hp with rfl | hp
    · have := h.1
      revert this
      cases a.1 <;> cases b.1 <;> simp
    · exact zip_alt h.2 p hp

/-! ### readings of runs, lists of data or cells -/
section
variable {S : Store} {x : D} {rs : List (Bool × Int)} (hx : LstAt S x (rs.map runD))
include hx
theorem cut_front : gSl S x none (some (-1)) = some (.lst (rs.dropLast.map runD)) := by
  rw [hx.sl]
  have : cutD (rs.map runD) none (some (-1)) = rs.dropLast.map runD := by
    unfold cutD
    rw [HT.sIx_none]
    have e2 : HT.sIx (rs.map runD).length (rs.map runD).length (some (-1)) = rs.length - 1 := by
      show (if (-1 : Int) < 0 then ((-1 : Int) + ((rs.map runD).length : Int)).toNat else min (-1 : Int).toNat (rs.map runD).length) = _
      rw [if_pos (show (-1 : Int) < 0 by decide), List.length_map]
      omega
    rw [e2, List.drop_zero, Nat.sub_zero, List.dropLast_eq_take, List.map_take]
  rw [this]
theorem cut_back : gSl S x (some 1) none = some (.lst (rs.tail.map runD)) := by
  rw [hx.sl]
  have : cutD (rs.map runD) (some 1) none = rs.tail.map runD := by
    unfold cutD
    rw [HT.sIx_none]
    have e2 : HT.sIx (rs.map runD).length 0 (some 1) = min 1 rs.length := by
      have := HT.sIx_nat (rs.map runD).length 0 1
      rw [List.length_map] at this
      rw [List.length_map]
      exact this
    rw [e2, List.length_map]
    cases rs with
    | nil => rfl
    | cons a r =>
      rw [show min 1 (a :: r).length = 1 by simp]
      rw [List.take_of_length_le (by simp)]
      rfl
  rw [this]
theorem cut_both (a b : Nat) (hb : b ≤ rs.length) : gSl S x (some (a : Int)) (some (b : Int)) = some (.lst (((rs.drop a).take (b - a)).map runD)) := by
  rw [hx.sl]
  have : cutD (rs.map runD) (some (a : Int)) (some (b : Int)) = ((rs.drop a).take (b - a)).map runD := by
    unfold cutD
    rw [HT.sIx_nat, HT.sIx_nat, List.length_map, Nat.min_eq_left hb, ← List.map_drop, ← List.map_take]
    congr 1
    by_cases ha : a ≤ rs.length
    · rw [Nat.min_eq_left ha]
    · rw [Nat.min_eq_right (by omega), List.drop_of_length_le (Nat.le_refl _), List.drop_of_length_le (by omega)]
      simp
  rw [this]
end
/-- without the silences at both ends -/
def innerR (rs : List (Bool × Int)) : List (Bool × Int) :=
  let f := if (rs.head?.map (·.1)) = some false then 1 else 0
  let b := rs.length - (if f < rs.length ∧ (rs.getLast?.map (·.1)) = some false then 1 else 0)
  (rs.drop f).take (b - f)
theorem at_last {α : Type} {f : α → D} (xs : List α) (x : α) : atI ((xs ++ [x]).map f) (-1) = some (f x) := by
  unfold atI ixN
  rw [if_neg (by decide), if_pos (by simp; omega)]
  have e : ((-1 : Int) + (((xs ++ [x]).map f).length : Int)).toNat = xs.length := by simp; omega
  rw [Option.bind_some, e, List.map_append, List.getElem?_append_right (by simp)]
  simp
theorem innerR_len (rs : List (Bool × Int)) : (innerR rs).length ≤ rs.length := by
  unfold innerR
  dsimp only
  rw [List.length_take, List.length_drop]
  omega
/-- a run as signs -/
def symL (u : Int) (p : Bool × Int) : List Nat := if p.1 then (if p.2 < 2 * u then [46] else [45]) else if 5 * u ≤ p.2 then [32, 47, 32] else if 2 * u ≤ p.2 then [32] else []
def rowL (u : Int) (rs : List (Bool × Int)) : List Nat := rs.flatMap (symL u)
theorem symL_len (u : Int) (p : Bool × Int) : (symL u p).length ≤ 3 := by
  unfold symL
  repeat' split
  all_goals simp
theorem rowL_len (u : Int) : ∀ rs : List (Bool × Int), (rowL u rs).length ≤ 3 * rs.length
  | [] => by simp [rowL]
  | p :: rs => by
    have h1 := symL_len u p
    have h2 := rowL_len u rs
    rw [show rowL u (p :: rs) = symL u p ++ rowL u rs from rfl, List.length_append, List.length_cons]
    omega
section
variable {S : Store} {x : D} {rs : List (Bool × Int)} (hx : LstAt S x (rs.map runD))
include hx
theorem r_innerX : F_inner K [x] S = .ok (.lst ((innerR rs).map runD), S) := by
  have hlen0 := hx.len
  rw [List.length_map] at hlen0
  cases rs with
  | nil =>
    have hlen := hlen0
    have ne := ne_nilG (S := S) pl_bz (x := x) (xs := []) hx.lst
    have c0 := cut_both hx 0 0 (by simp)
    simp at c0 hlen ne
    simp [F_inner, sx_inner, ne, hlen, c0, innerR]
  | cons p r =>
    obtain ⟨xs, y, ey⟩ : ∃ xs y, p :: r = xs ++ [y] := ⟨(p :: r).dropLast, (p :: r).getLast (by simp), (List.dropLast_concat_getLast (by simp)).symm⟩
    have ne := ne_nilG (S := S) pl_bz (x := x) (xs := p :: r) hx.lst
    simp only [List.isEmpty_cons, Bool.not_false] at ne
    have l1 : gIx S x (.int (-1)) = some (runD y) := by rw [hx.ix, ey]; exact at_last xs y
    have l0 : gIx S x (.int 0) = some (runD p) := by rw [hx.ix]; exact at_0
    have l2 : (p :: r).getLast?.map (·.1) = some y.1 := by rw [ey]; simp
    have hi : innerR (p :: r) = ((p :: r).drop (if p.1 = false then 1 else 0)).take ((r.length + 1 - (if (if p.1 = false then 1 else 0) < r.length + 1 ∧ y.1 = false then 1 else 0)) - (if p.1 = false then 1 else 0)) := by
      unfold innerR
      rw [l2]
      simp
    rw [hi]
    have g00 := cut_both hx 0 (r.length + 1) (by simp)
    have g01 := cut_both hx 0 r.length (by simp)
    have g10 := cut_both hx 1 (r.length + 1) (by simp)
    have g11 := cut_both hx 1 r.length (by simp)
    rw [Nat.sub_zero] at g00 g01
    have hlen : gLen S [x] = some (.int ((r.length : Int) + 1)) := by rw [hlen0]; simp
    clear hlen0
    rw [show (((r.length + 1 : Nat) : Int)) = (r.length : Int) + 1 by omega] at g00 g10
    have g00' : gSl S x (some 0) (some ((r.length : Int) + 1)) = _ := g00
    have g01' : gSl S x (some 0) (some (r.length : Int)) = _ := g01
    have g10' : gSl S x (some 1) (some ((r.length : Int) + 1)) = _ := g10
    have g11' : gSl S x (some 1) (some (r.length : Int)) = _ := g11
    clear g00 g01 g10 g11 hi l2 ey hx
    obtain ⟨pb, pt⟩ := p
    obtain ⟨xb, xt⟩ := y
    have hpos : (0 : Int) < (r.length : Int) + 1 := by omega
    cases pb <;> cases xb
    · cases r with
      | nil =>
        simp at g10' hlen
        simp [F_inner, sx_inner, ne, l0, l1, runD, hlen, g10']
      | cons y r =>
        generalize hn : (y :: r).length = n at hlen hpos g10' g11' g00' g01' ⊢
        generalize (false, pt) :: y :: r = Z at hlen hpos g10' g11' g00' g01' ⊢
        have hn0 : 0 < n := by rw [← hn]; simp
        have h1n : (1 : Int) < (n : Int) + 1 := by omega
        simp [F_inner, sx_inner, ne, l0, l1, runD, hlen, g11', hn0, h1n]
    · cases r with
      | nil =>
        simp at g10' hlen
        simp [F_inner, sx_inner, ne, l0, l1, runD, hlen, g10']
      | cons y r =>
        generalize hn : (y :: r).length = n at hlen hpos g10' g11' g00' g01' ⊢
        generalize (false, pt) :: y :: r = Z at hlen hpos g10' g11' g00' g01' ⊢
        have hn0 : 0 < n := by rw [← hn]; simp
        have h1n : (1 : Int) < (n : Int) + 1 := by omega
        simp [F_inner, sx_inner, ne, l0, l1, runD, hlen, g10', hn0, h1n]
    · simp [F_inner, sx_inner, ne, l0, l1, runD, hlen, hpos, g01']
    · simp [F_inner, sx_inner, ne, l0, l1, runD, hlen, hpos, g00']
variable {u : Int} (h1 : 1 ≤ u) (h9 : u ≤ 9)
include h1 h9
omit hx in
theorem for_rowX {a0 : Option D} : ∀ (rs : List (Bool × Int)) (acc : List Nat) (x3 x4 : Option D), acc.length + 3 * rs.length ≤ 10000 → ∃ y3 y4, forL (gT 2 (gsC (gN 3) (gsC (gN 4) gsN))) (lp_row_in_0 K) none (rs.map runD) [a0, some (.int u), some (tD acc), x3, x4] S = .ok (.nx, [a0, some (.int u), some (tD (acc ++ rowL u rs)), y3, y4], S)
  | [], acc, x3, x4, _ => ⟨x3, x4, by simp [forL, rowL]⟩
  | p :: rs, acc, x3, x4, hl => by
    have hz : (20000 : Nat) ≤ sizeLine := by decide
    have b2 : (Builtin.Int.intBits 2 : Int) + (Builtin.Int.intBits u : Int) ≤ 134217728 := bits_ok (a := 4) (b := 4) (by decide) (by omega) (by decide)
    have b5 : (Builtin.Int.intBits 5 : Int) + (Builtin.Int.intBits u : Int) ≤ 134217728 := bits_ok (a := 4) (b := 4) (by decide) (by omega) (by decide)
    have hs := symL_len u p
    simp only [List.length_cons] at hl
    obtain ⟨y3, y4, e⟩ := for_rowX (a0 := a0) rs (acc ++ symL u p) (some (.bl p.1)) (some (.int p.2)) (by rw [List.length_append]; omega)
    refine ⟨y3, y4, ?_⟩
    have e1 : lp_row_in_0 K [a0, some (.int u), some (tD acc), some (.bl p.1), some (.int p.2)] S = .ok (.nx, [a0, some (.int u), some (tD (acc ++ symL u p)), some (.bl p.1), some (.int p.2)], S) := by
      have c1 := add_tD (S := S) (a := acc) (b := [46]) (by simp; omega)
      have c2 := add_tD (S := S) (a := acc) (b := [45]) (by simp; omega)
      have c3 := add_tD (S := S) (a := acc) (b := [32, 47, 32]) (by simp; omega)
      have c4 := add_tD (S := S) (a := acc) (b := [32]) (by simp; omega)
      rw [show tD [46] = .str "." from rfl] at c1
      rw [show tD [45] = .str "-" from rfl] at c2
      rw [show tD [32, 47, 32] = .str " / " from rfl] at c3
      rw [show tD [32] = .str " " from rfl] at c4
      obtain ⟨pb, pt⟩ := p
      unfold symL
      generalize hA : tD acc = dA at *
      cases pb with
      | true =>
        by_cases h : pt < 2 * u
        · simp [lp_row_in_0, b2, b5, h, c1]
        · simp [lp_row_in_0, b2, b5, h, c2]
      | false =>
        by_cases h : 5 * u ≤ pt
        · simp [lp_row_in_0, b2, b5, h, c3]
        · by_cases h' : 2 * u ≤ pt
          · simp [lp_row_in_0, b2, b5, h, h', c4]
          · simp [lp_row_in_0, b2, b5, h, h', hA]
    have e2 : rowL u (p :: rs) = symL u p ++ rowL u rs := rfl
    rw [List.map_cons, forL, e2, ← List.append_assoc]
    show Res.bind (lp_row_in_0 K [a0, some (.int u), some (tD acc), some (.bl p.1), some (.int p.2)] S) _ = _
    refine Eq.trans (congrArg (fun r => Res.bind r _) e1) ?_
    exact e
theorem r_row_inX (hl : rs.length ≤ 1000) : F_row_in K [x, .int u] S = .ok (tD (rowL u (innerR rs)), S) := by
  have hi := innerR_len rs
  obtain ⟨y3, y4, e⟩ := for_rowX (K := K) (S := S) h1 h9 (a0 := some x) (innerR rs) [] none none (by simp; omega)
  rw [List.nil_append, show tD [] = .str "" from rfl] at e
  have ri := r_innerX (K := K) hx
  generalize tD (rowL u (innerR rs)) = d at *
  simp [F_row_in, sx_row_in, sxFor, ixV, ri, itemsOf, e]
end

/-! ### both ends dropped -/
def dropTrail (rs : List (Bool × Int)) : List (Bool × Int) := if (rs.getLast?.map (·.1)) = some false then rs.dropLast else rs
def dropHead (rs : List (Bool × Int)) : List (Bool × Int) := if (rs.head?.map (·.1)) = some false then rs.tail else rs
theorem inner_drops (rs : List (Bool × Int)) : innerR rs = dropTrail (dropHead rs) := by
  cases rs with
  | nil => rfl
  | cons p r =>
    obtain ⟨b, x⟩ := p
    cases b with
    | true =>
      have h1 : dropHead ((true, x) :: r) = (true, x) :: r := rfl
      rw [h1]
      unfold innerR dropTrail
      dsimp only
      have h2 : ((((true, x) :: r).head?.map (·.1)) = some false) = False := by simp
      generalize (((true, x) :: r).getLast?.map (·.1)) = o
      simp only [h2, if_false, List.drop_zero, Nat.sub_zero]
      by_cases q : o = some false
      · subst q
        rw [if_pos ⟨by simp, rfl⟩, if_pos rfl, List.dropLast_eq_take]
      · rw [if_neg (fun z => q z.2), if_neg q, Nat.sub_zero, List.take_length]
    | false =>
      have h1 : dropHead ((false, x) :: r) = r := rfl
      rw [h1]
      have h2 : ((((false, x) :: r).head?.map (·.1)) = some false) = True := by simp
      cases r with
      | nil => rfl
      | cons q r =>
        unfold innerR dropTrail
        dsimp only
        have h3 : ((false, x) :: q :: r).getLast? = (q :: r).getLast? := List.getLast?_cons_cons
        rw [h3]
        generalize ((q :: r).getLast?.map (·.1)) = o
        simp only [h2, if_true]
        by_cases e : o = some false
        · subst e
          rw [if_pos ⟨by simp, rfl⟩, if_pos rfl, List.dropLast_eq_take]
          simp
        · rw [if_neg (fun z => e z.2), if_neg e]
          simp
theorem trail_cons (p q : Bool × Int) (r : List (Bool × Int)) : dropTrail (p :: q :: r) = p :: dropTrail (q :: r) := by
  unfold dropTrail
  rw [List.getLast?_cons_cons]
  split <;> rfl
theorem filt_inner (rs : List (Bool × Int)) : (innerR rs).filter (·.1) = rs.filter (·.1) := by
  rw [inner_drops]
  have h1 : ∀ rs : List (Bool × Int), (dropTrail rs).filter (·.1) = rs.filter (·.1) := fun rs => by
    unfold dropTrail
    split
    · rename_i h
      rcases List.eq_nil_or_concat rs with h0 | ⟨a, t, h0⟩
      · subst h0; rfl
      · rw [List.concat_eq_append] at h0
        subst h0
        rw [List.getLast?_concat] at h
        simp at h
        rw [List.dropLast_concat]
        simp [h]
    · rfl
  have h2 : ∀ rs : List (Bool × Int), (dropHead rs).filter (·.1) = rs.filter (·.1) := fun rs => by
    unfold dropHead
    split
    · rename_i h
      cases rs with
      | nil => rfl
      | cons p r =>
        simp at h
        simp [h]
    · rfl
  rw [h1, h2]

theorem lcL_fmOf {α : Type} {f : α → D} {p : α → Bool} {h : α → D} {g : Gx} {t : Tx} {fe : Ex} {ck : Option (Nat × List D)} {ρ : DEnv} {S : Store} (hk : ckB ck S = true) : ∀ (xs : List α) (acc : List D), (∀ x ∈ xs, ∃ ρ1, g (f x) ρ = some ρ1 ∧ t ρ1 S = .ok (p x, S) ∧ (p x = true → fe ρ1 S = .ok (h x, S))) → acc.length + xs.length ≤ sizeLine → lcL g t fe ck ρ (xs.map f) acc S = .ok (acc ++ (xs.filter p).map h, S)
  | [], acc, _, _ => by simp [lcL]
  | d :: ds, acc, hd, hl => by
    obtain ⟨ρ1, e1, e2, e3⟩ := hd d List.mem_cons_self
    have hl2 : acc.length + (ds.length + 1) ≤ sizeLine := by simpa using hl
    rw [List.map_cons]
    unfold lcL
    rw [e1]
    dsimp only
    rw [e2]
    cases e : p d with
    | true =>
      have ih := lcL_fmOf hk ds (acc ++ [h d]) (fun x hx => hd x (List.mem_cons_of_mem _ hx)) (by simp; omega)
      simp [e3 e, hk, show acc.length < sizeLine by omega, ih, List.filter_cons_of_pos e]
    | false =>
      have ih := lcL_fmOf hk ds acc (fun x hx => hd x (List.mem_cons_of_mem _ hx)) (by omega)
      simp [hk, ih, List.filter_cons_of_neg (show ¬ p d = true by rw [e]; simp)]

theorem alt_congr : ∀ {rs ss : List (Bool × Int)}, rs.map (·.1) = ss.map (·.1) → altB rs = altB ss
  | [], [], _ => rfl
  | [], _ :: _, h => by cases h
  | _ :: _, [], h => by cases h
  | [a], [b], _ => rfl
  | [a], _ :: _ :: _, h => by simp at h
  | _ :: _ :: _, [b], h => by simp at h
  | a :: b :: r, c :: d :: s, h => by
    simp only [List.map_cons, List.cons.injEq] at h
    have ih := alt_congr (rs := b :: r) (ss := d :: s) (by simp [h.2.1, h.2.2])
    rw [altB, altB, ih, h.1, h.2.1]
theorem alt_snoc : ∀ {rs : List (Bool × Int)} {b : Int}, altB rs = true → (rs.map (·.1)).getLast? = some true → altB (rs ++ [(false, b)]) = true
  | [], _, _, h => by cases h
  | [(x, y)], b, _, h => by
    simp at h
    subst h
    rfl
  | p :: q :: r, b, h, hl => by
    simp only [altB, Bool.and_eq_true] at h
    have ih := alt_snoc (rs := q :: r) (b := b) h.2 (by simpa using hl)
    show altB (p :: q :: (r ++ [(false, b)])) = true
    simp only [altB, Bool.and_eq_true]
    exact ⟨h.1, ih⟩
theorem alt_ends {rs : List (Bool × Int)} {a b : Int} (h : altB rs = true) (h1 : (rs.map (·.1)).head? = some true) (h2 : (rs.map (·.1)).getLast? = some true) : altB ((false, a) :: (rs ++ [(false, b)])) = true := by
  cases rs with
  | nil => cases h1
  | cons p r =>
    have hs := alt_snoc (b := b) h h2
    simp at h1
    show ((false != p.1) && altB ((p :: r) ++ [(false, b)])) = true
    rw [hs, h1]
    rfl
theorem alt_drop : ∀ {rs : List (Bool × Int)}, altB rs = true → altB rs.dropLast = true
  | [], _ => rfl
  | [_], _ => rfl
  | [a, b], _ => rfl
  | a :: b :: c :: r, h => by
    simp only [altB, Bool.and_eq_true] at h
    have ih := alt_drop (rs := b :: c :: r) (by simp only [altB, Bool.and_eq_true]; exact h.2)
    show altB (a :: b :: (c :: r).dropLast) = true
    simp only [altB, Bool.and_eq_true]
    exact ⟨h.1, ih⟩
theorem alt_not : ∀ {rs : List (Bool × Int)}, altB rs = true → altB (rs.map fun p => (!p.1, p.2)) = true
  | [], _ => rfl
  | [_], _ => rfl
  | a :: b :: r, h => by
    simp only [altB, Bool.and_eq_true] at h
    have ih := alt_not (rs := b :: r) h.2
    show ((!a.1) != (!b.1) && altB ((b :: r).map fun p => (!p.1, p.2))) = true
    rw [ih, Bool.and_true]
    have := h.1
    revert this
    cases a.1 <;> cases b.1 <;> simp
theorem alt_add : ∀ {rs : List (Bool × Int)} {q : Bool × Int}, altB rs = true → (∀ p, rs.getLast? = some p → p.1 ≠ q.1) → altB (rs ++ [q]) = true
  | [], _, _, _ => rfl
  | [a], q, _, h => by
    have := h a rfl
    show ((a.1 != q.1) && altB [q]) = true
    simpa [altB] using this
  | a :: b :: r, q, ha, h => by
    simp only [altB, Bool.and_eq_true] at ha
    have ih := alt_add (rs := b :: r) (q := q) ha.2 fun p hp => h p (by rw [List.getLast?_cons_cons]; exact hp)
    show ((a.1 != b.1) && altB ((b :: r) ++ [q])) = true
    rw [ih, ha.1]
    rfl
theorem alt_last {rs : List (Bool × Int)} {b : Bool} {x y : Int} (h : altB (rs ++ [(b, x)]) = true) : altB (rs ++ [(b, y)]) = true := by
  rw [alt_congr (ss := rs ++ [(b, x)]) (by simp)]
  exact h

/-! ### lessons -/
abbrev EC (K : PySem.W.Frag) : Addr := He.ga K "Lesson"
def sgnD (ss : List Nat) : List D := ss.map fun c => tD [c]
def efs (bk : Bk) (ss : List Nat) (r q : Nat) : List (Str × D) := [("book", bkD bk), ("signs", .lst (sgnD ss)), ("rows", .loc r), ("taken", .loc q)]
def ansD (p : Nat × Bool) : D := .tup [tD [p.1], .bl p.2]
structure EAt (K : PySem.W.Frag) (S : Store) (n r q : Nat) (bk : Bk) (ss : List Nat) (rs ts : List (Nat × Bool)) : Prop where
  a : S[n]? = some (.ins (EC K) (efs bk ss r q))
  b : S[r]? = some (.lst (rs.map ansD))
  c : S[q]? = some (.lst (ts.map ansD))
  nr : n ≠ r
  nq : n ≠ q
  rq : r ≠ q
section
variable {S : Store} {n r q : Nat} {bk : Bk} {ss : List Nat} {rs ts : List (Nat × Bool)}
theorem EAt.more (h : EAt K S n r q bk ss rs ts) (c : List Cell) : EAt K (S ++ c) n r q bk ss rs ts := by
  have l1 := (List.getElem?_eq_some_iff.mp h.a).1
  have l2 := (List.getElem?_eq_some_iff.mp h.b).1
  have l3 := (List.getElem?_eq_some_iff.mp h.c).1
  exact ⟨by rw [List.getElem?_append_left l1, h.a], by rw [List.getElem?_append_left l2, h.b], by rw [List.getElem?_append_left l3, h.c], h.nr, h.nq, h.rq⟩
theorem EAt.fld (h : EAt K S n r q bk ss rs ts) (x : Str) : fldOf S (.loc n) (He.ga K "Lesson") x = (efs bk ss r q).lookup x := by
  unfold fldOf; simp only [h.a, if_true]
theorem EAt.isi (h : EAt K S n r q bk ss rs ts) {x : Str} (e : ((efs bk ss r q).lookup x).isNone = true) : isIns (He.ga K "Lesson") S x (.loc n) = true := by
  unfold isIns; simp only [h.a]; rw [e]; simp
@[simp] theorem e_book : (efs bk ss r q).lookup ("book" : Str) = some (bkD bk) := rfl
@[simp] theorem e_signs : (efs bk ss r q).lookup ("signs" : Str) = some (D.lst (sgnD ss)) := rfl
@[simp] theorem e_rows : (efs bk ss r q).lookup ("rows" : Str) = some (D.loc r) := rfl
@[simp] theorem e_taken : (efs bk ss r q).lookup ("taken" : Str) = some (D.loc q) := rfl
structure SgOk (bk : Bk) (ss : List Nat) : Prop where
  lo : 2 ≤ ss.length
  hi : ss.length ≤ 20
  nd : ss.Nodup
  mem : ∀ c ∈ ss, c ∈ bk.map (·.1)
theorem r_einit {S : Store} (o : BookOk bk) (g : SgOk bk ss) : F_Lesson_init K [.loc S.length, bkD bk, .lst (sgnD ss)] (S ++ [.ins (He.ga K "Lesson") []]) = .ok (.non, S ++ [.ins (EC K) (efs bk ss (S.length + 1) (S.length + 2)), .lst [], .lst []]) := by
  have hz : (1000 : Nat) ≤ sizeLine := by decide
  have nb := fun S : Store => r_need_book (K := K) (S := S) o
  have gd : ∀ S : Store, (gDict S [bkD bk]).map D.dct = some (bkD bk) := fun S => rfl
  have lo := g.lo
  have hi := g.hi
  have len : ∀ S : Store, gLen S [.lst (sgnD ss)] = some (.int (ss.length : Int)) := fun S => by rw [op_len_l]; unfold sgnD; rw [List.length_map]
  have c1 : (2 : Int) ≤ (ss.length : Int) := by omega
  have c2 : (ss.length : Int) ≤ 20 := by omega
  have l1 := fun S : Store => lcL_mapOf (f := fun c : Nat => tD [c]) (h := fun _ => D.bl true) (g := gN 3) (t := txY) (fe := exAnd (exIsi "str" (exV 3)) (ex2 gIn (exV 3) (exV 1))) (ck := none) (ρ := [some (.loc S.length), some (bkD bk), some (.lst (sgnD ss)), none]) (S := S ++ [.ins (He.ga K "Lesson") []]) rfl ss [] (fun c hc => ⟨_, rfl, rfl, by
    have gi := gin_bk (S := S ++ [.ins (He.ga K "Lesson") []]) (bk := bk) (l := [c])
    have hs : (bk.find? fun p => decide ([p.1] = [c])).isSome = true := by
      rw [List.find?_isSome]
      obtain ⟨p, hp, e⟩ := List.mem_map.mp (g.mem c hc)
      exact ⟨p, hp, by simp [e]⟩
    rw [hs] at gi
    have ty := ty_tD (S := S ++ [.ins (He.ga K "Lesson") []]) (l := [c])
    generalize tD [c] = dc at *
    generalize bkD bk = db at *
    simp [ty, gi]⟩) (by simp only [List.length_nil]; omega)
  have l1 := l1 S
  rw [List.nil_append, show (ss.map fun _ => D.bl true) = (ss.map fun _ => true).map .bl by rw [List.map_map]; rfl] at l1
  rw [show (ss.map fun c => tD [c]) = sgnD ss from rfl] at l1
  have ga := g_all (S := S ++ [.ins (He.ga K "Lesson") []]) (ss.map fun _ => true)
  rw [show (ss.map fun _ => true).all id = true by simp] at ga
  have ls : strsOf (sgnD ss) = some (ss.map fun c => txt [c]) := by
    have := strsOf_txt (ss.map fun c => [c])
    rw [List.map_map, List.map_map] at this
    exact this
  have ms : DL.Lib.metS (ss.map fun c => txt [c]) = ss.map fun c => txt [c] := metS_nodup (by
    exact List.Pairwise.map _ (fun a b hab z => hab (by have := txt_inj z; simpa using this)) g.nd)
  have sb : ss.length + 1 < scanBound := by
    have : scanBound = 4096 := rfl
    omega
  have s1 : ∀ (R : Store) (fs : List (Str × D)) (x : Str) (d : D), fs.length < 1000 → gSetF (He.ga K "Lesson") x (S ++ .ins (He.ga K "Lesson") fs :: R) (.loc S.length) d = some (S ++ .ins (He.ga K "Lesson") (putFD x d fs) :: R) := fun R fs x d hl => by
    unfold gSetF
    have e : (S ++ Cell.ins (He.ga K "Lesson") fs :: R)[S.length]? = some (.ins (He.ga K "Lesson") fs) := by rw [List.getElem?_append_right (Nat.le_refl _)]; simp
    simp only [e]
    rw [if_pos ⟨trivial, hl⟩, List.set_append_right _ _ (Nat.le_refl _), Nat.sub_self]
    rfl
  have gl : ∀ S : Store, gList S [.lst (sgnD ss)] = some (.lst (sgnD ss)) := fun S => rfl
  generalize hdb : bkD bk = db at *
  generalize hL : sgnD ss = L at *
  have hlenL : L.length = ss.length := by rw [← hL]; unfold sgnD; simp
  have t1 := s1 [] [] "book" db (by simp)
  have t2 := s1 [] [("book", db)] "signs" (.lst L) (by simp)
  have t3 := s1 [.lst []] [("book", db), ("signs", .lst L)] "rows" (.loc (S.length + 1)) (by simp)
  have t4 := s1 [.lst [], .lst []] [("book", db), ("signs", .lst L), ("rows", .loc (S.length + 1))] "taken" (.loc (S.length + 2)) (by simp)
  have p1 : putFD "book" db [] = ([("book", db)] : List (Str × D)) := rfl
  have p2 : putFD "signs" (.lst L) ([("book", db)] : List (Str × D)) = ([("book", db), ("signs", .lst L)] : List (Str × D)) := rfl
  have p3 : putFD "rows" (.loc (S.length + 1)) ([("book", db), ("signs", .lst L)] : List (Str × D)) = ([("book", db), ("signs", .lst L), ("rows", .loc (S.length + 1))] : List (Str × D)) := rfl
  have p4 : putFD "taken" (.loc (S.length + 2)) ([("book", db), ("signs", .lst L), ("rows", .loc (S.length + 1))] : List (Str × D)) = ([("book", db), ("signs", .lst L), ("rows", .loc (S.length + 1)), ("taken", .loc (S.length + 2))] : List (Str × D)) := rfl
  rw [p1] at t1
  rw [p2] at t2
  rw [p3] at t3
  rw [p4] at t4
  have e3 : S ++ [Cell.ins (EC K) (efs bk ss (S.length + 1) (S.length + 2)), .lst [], .lst []] = S ++ [.ins (He.ga K "Lesson") [("book", db), ("signs", .lst L), ("rows", .loc (S.length + 1)), ("taken", .loc (S.length + 2))], .lst [], .lst []] := by rw [← hdb, ← hL]; rfl
  rw [e3]
  have hmet : (ss.map fun c => txt [c]).length = ss.length := by simp
  have lst : lstOf (S ++ [.ins (He.ga K "Lesson") []]) (.lst L) = some L := rfl
  have ty : tyD (S ++ [.ins (He.ga K "Lesson") []]) (.lst L) = some "list" := rfl
  generalize (ss.map fun c => txt [c]) = CT at *
  generalize (ss.map fun _ => true).map D.bl = TR at *
  simp [F_Lesson_init, sx_Lesson_init, nb, len, c1, c2, exLc, ixV, itemsOf, wipeD, exLenSet, l1, ga, ls, ms, sb, hmet, gd, gl, t1, t2, t3, t4]
theorem eat_new {S : Store} : EAt K (S ++ [.ins (EC K) (efs bk ss (S.length + 1) (S.length + 2)), .lst [], .lst []]) S.length (S.length + 1) (S.length + 2) bk ss [] [] :=
  ⟨by rw [List.getElem?_append_right (Nat.le_refl _)]; simp, by rw [List.getElem?_append_right (by omega)]; simp, by rw [List.getElem?_append_right (by omega)]; simp, by omega, by omega, by omega⟩
/-- how many answers more were right -/
def scF (c : Nat) : List (Nat × Bool) → Int → Int
  | [], f => f
  | p :: r, f => scF c r (if p.1 = c then max 0 (f + (if p.2 then 1 else -1)) else f)
theorem r_score_of {S : Store} {x0 x : D} {rs : List (Nat × Bool)} (hx : LstAt S x (rs.map ansD)) {c : Nat} : F_Lesson_score_of K [x0, x, tD [c]] S = .ok (.int (scF c rs 0), S) := by
  obtain ⟨ck, s1, s2, s3⟩ := hx.src
  have key : ∀ (r : List (Nat × Bool)) (f : Int) (a4 a5 : Option D), ∃ b4 b5, forL (gT 2 (gsC (gN 4) (gsC (gN 5) gsN))) (lp_Lesson_score_of_0 K) ck (r.map ansD) [some x0, some x, some (tD [c]), some (.int f), a4, a5] S = .ok (.nx, [some x0, some x, some (tD [c]), some (.int (scF c r f)), b4, b5], S) := by
    intro r
    induction r with
    | nil => intro f a4 a5; exact ⟨_, _, rfl⟩
    | cons p r ih =>
      intro f a4 a5
      obtain ⟨d, b⟩ := p
      obtain ⟨b4, b5, e⟩ := ih (if d = c then max 0 (f + (if b then 1 else -1)) else f) (some (tD [d])) (some (.bl b))
      refine ⟨b4, b5, ?_⟩
      have eq := eq_tD (S := S) (a := [d]) (b := [c])
      have st : lp_Lesson_score_of_0 K [some x0, some x, some (tD [c]), some (.int f), some (tD [d]), some (.bl b)] S = .ok (.nx, [some x0, some x, some (tD [c]), some (.int (if d = c then max 0 (f + (if b then 1 else -1)) else f)), some (tD [d]), some (.bl b)], S) := by
        by_cases h : d = c
        · subst h
          simp only [beq_self_eq_true] at eq
          rw [if_pos rfl]
          have mx : ∀ i : Int, (if 0 < i then i else 0) = max 0 i := fun i => by split <;> omega
          generalize tD [d] = dd at *
          cases b <;> simp [lp_Lesson_score_of_0, eq, mx]
        · have hb : (([d] : List Nat) == [c]) = false := by simpa using h
          rw [hb] at eq
          rw [if_neg h]
          generalize tD [d] = dd at *
          generalize tD [c] = dc at *
          simp [lp_Lesson_score_of_0, eq]
      rw [List.map_cons, forL, scF]
      refine Eq.trans (congrArg (fun r => Res.bind r _) st) ?_
      simp only [Res.bind_ok, s3, if_true]
      exact e
  obtain ⟨b4, b5, e⟩ := key rs 0 none none
  generalize tD [c] = dc at *
  generalize rs.map ansD = L at *
  simp [F_Lesson_score_of, sx_Lesson_score_of, sxFor, ixV, s2, e]
theorem r_answers0 (h : EAt K S n r q bk ss [] ts) : F_Lesson_answers K [.loc n] S = .ok (.lst [], S) := by
  have fs := h.fld "rows"
  rw [e_rows] at fs
  have gl : gList S [.loc r] = some (.lst []) := by
    show (lstOf S (.loc r)).map D.lst = _
    rw [(LstAt.cell h.b).lst]
    rfl
  simp [F_Lesson_answers, sx_Lesson_answers, fs, gl]
end

theorem wz_at (hx : xcsB K xnames "KeysError" = true) {z : Str} (hz : z ∈ xnames) : wz K (He.ga K z) = some z := wordsZ_of hx (fun _ h => h) hz
/-- the book of all signs -/
def fb : Bk := (List.range 41).map fun j => (SG.getD j 0, codeL (2 + j))
theorem fb_ok : BookOk fb := ⟨by decide +kernel, by decide +kernel, by decide +kernel, by decide +kernel, by decide +kernel, by decide +kernel⟩
theorem g_fb {S : Store} : gDict S [.lst ((List.range 41).map fun j => D.tup [tD [SG.getD j 0], tD (codeL (2 + j))])] = some (kvB fb) := by kernel_rfl
def someS (m : Nat) : List Nat := (SG.drop m).take 20
theorem some_ok (m : Nat) (h : m < 9) : SgOk fb (someS m) := by
  have k1 : ∀ m, m < 9 → 2 ≤ (someS m).length ∧ (someS m).length ≤ 20 ∧ (someS m).Nodup ∧ ∀ c ∈ someS m, c ∈ fb.map (·.1) := by decide +kernel
  obtain ⟨a, b, c, d⟩ := k1 m h
  exact ⟨a, b, c, d⟩
theorem sl_some {S : Store} (m : Nat) (h : m < 9) : gSl S (.lst (sgnD SG)) (some (m : Int)) (some (20 + (m : Int))) = some (.lst (sgnD (someS m))) := by
  have : m = 0 ∨ m = 1 ∨ m = 2 ∨ m = 3 ∨ m = 4 ∨ m = 5 ∨ m = 6 ∨ m = 7 ∨ m = 8 := by omega
  rcases this with e | e | e | e | e | e | e | e | e <;> subst e <;> rfl
def badB : List D := [.dct [], .non, .dct [(.inr "a", .str "")], .dct [(.inr "a", .str "."), (.inr "b", .str ".")], .dct [(.inr "A", .str ".")]]
theorem bad_bookC {S : Store} {d : D} (h : d ∈ badB) : F_is_book K [d] S = .ok (.bl false, S) := by
  unfold badB at h
  simp only [List.mem_cons, List.not_mem_nil, or_false] at h
  rcases h with rfl | rfl | rfl | rfl | rfl
  all_goals first | rfl | kernel_rfl
theorem bad_b {d : D} (h : d ∈ badB) (S : Store) : F_need_book K [d] S = .exc (He.ga K "BadBook") S := by
  have := bad_bookC (K := K) (S := S) h
  simp [F_need_book, sx_need_book, this]
def badU : List D := [.int 0, .int 10, .non, .bl true, .str "1"]
theorem bad_u {d : D} (h : d ∈ badU) (S : Store) : F_need_unit K [d] S = .exc (He.ga K "BadNumber") S := by
  unfold badU at h
  simp only [List.mem_cons, List.not_mem_nil, or_false] at h
  rcases h with rfl | rfl | rfl | rfl | rfl <;> simp [F_need_unit, sx_need_unit, F_is_count, sx_is_count]
def badH : List (D × D) := [(.non, .int 1), (.int 1, .int 1), (.str "", .int 1), (.bl true, .int 0), (.bl true, .int 2001), (.bl false, .non), (.bl false, .bl true)]
theorem bad_h {p : D × D} (h : p ∈ badH) {n : Nat} {S : Store} : F_Listener_hear K [.loc n, p.1, p.2] S = .exc (He.ga K "BadRuns") S := by
  unfold badH at h
  simp only [List.mem_cons, List.not_mem_nil, or_false] at h
  rcases h with rfl | rfl | rfl | rfl | rfl | rfl | rfl <;> simp [F_Listener_hear, sx_Listener_hear]
def badL : List D := [.non, .lst [], .lst [.str "a"], .tup [.str "a", .str "b"], .lst [.str "a", .str "a"], .lst [.str "a", .str "#"], .lst [.str "a", .non], .lst (sgnD (SG.take 21)), .str "ab"]
theorem bad_l {d : D} (h : d ∈ badL) {n : Nat} {S : Store} : F_Lesson_init K [.loc n, bkD fb, d] S = .exc (He.ga K "BadSign") S := by
  have nb := r_need_book (K := K) (S := S) fb_ok
  unfold badL at h
  simp only [List.mem_cons, List.not_mem_nil, or_false] at h
  have i1 : gIn S (.str "a") (bkD fb) = some (.bl true) := by kernel_rfl
  have i2 : gIn S (.str "#") (bkD fb) = some (.bl false) := by kernel_rfl
  have z1 : (1 : Nat) ≤ sizeLine := by decide
  have z2 : (2 : Nat) ≤ sizeLine := by decide
  have z0 : (0 : Nat) < sizeLine := by decide
  have z3 : (1 : Nat) < sizeLine := by decide
  have ls : exLenSet (exV 2) [some (.loc n), some (bkD fb), some (.lst [.str "a", .str "a"]), none] S = .ok (.int 1, S) := by kernel_rfl
  have g1 : gAll S [.lst [.bl true, .bl true]] = some (.bl true) := rfl
  have g2 : gAll S [.lst [.bl true, .bl false]] = some (.bl false) := rfl
  have l21 : gLen S [.lst (sgnD (SG.take 21))] = some (.int 21) := by kernel_rfl
  generalize hL : sgnD (SG.take 21) = L at *
  generalize bkD fb = db at *
  rcases h with rfl | rfl | rfl | rfl | rfl | rfl | rfl | rfl | rfl
  all_goals simp [F_Lesson_init, sx_Lesson_init, nb, exLc, ixV, itemsOf, wipeD, lcL, ckB, i1, i2, z0, z3, g1, g2, ls]
  all_goals simp [op_len_l] at l21
  all_goals simp [l21]
def badC : List D := [.str "", .non, .str ".......", .str "x", .int 5, .lst [.str ".", .str "-"]]
theorem bad_c {d : D} (h : d ∈ badC) {n : Nat} {S : Store} : F_Lesson_answer K [.loc n, d] S = .exc (He.ga K "BadCode") S := by
  have ic : F_is_code K [d] S = .ok (.bl false, S) := by
    unfold badC at h
    simp only [List.mem_cons, List.not_mem_nil, or_false] at h
    rcases h with rfl | rfl | rfl | rfl | rfl | rfl
    all_goals first | rfl | kernel_rfl
  simp [F_Lesson_answer, sx_Lesson_answer, ic]
def badS (m : Nat) : List D := [.str "#", .non, .str "", .str "ab", .int 5, tD [if m = 0 then 61 else 97]]
theorem bad_s {m : Nat} (hm : m < 9) {d : D} (h : d ∈ badS m) {S : Store} {n r q : Nat} {rs ts : List (Nat × Bool)} (e : EAt K S n r q fb (someS m) rs ts) : F_Lesson_score K [.loc n, d] S = .exc (He.ga K "BadSign") S := by
  have fs := e.fld "signs"
  rw [e_signs] at fs
  have key : ∀ {z : Str}, (∀ c ∈ someS m, txt [c] ≠ z) → gNotIn S (.str z) (.lst (sgnD (someS m))) = some (.bl true) := fun {z} hz => by
    have f1 : (sgnD (someS m)).all flatD = true := by
      rw [List.all_eq_true]
      intro x hx
      obtain ⟨c, _, rfl⟩ := List.mem_map.mp hx
      rfl
    have f2 : inD (.str z) (sgnD (someS m)) = false := by
      unfold inD
      rw [List.any_eq_false]
      intro x hx
      obtain ⟨c, hc, rfl⟩ := List.mem_map.mp hx
      have := hz c hc
      show ¬ (eqD (.str (txt [c])) (.str z) = true)
      simpa [eqD] using this
    have gi : gIn S (.str z) (.lst (sgnD (someS m))) = some (.bl false) := by
      show (if flatD (.str z) && (sgnD (someS m)).all flatD then some (D.bl (inD (.str z) (sgnD (someS m)))) else none) = _
      rw [f1, f2]
      rfl
    unfold gNotIn
    rw [gi]
    rfl
  unfold badS at h
  simp only [List.mem_cons, List.not_mem_nil, or_false] at h
  have k0 : ∀ m, m < 9 → ∀ c ∈ someS m, txt [c] ≠ ("#" : Str) ∧ txt [c] ≠ ("" : Str) ∧ txt [c] ≠ ("ab" : Str) ∧ txt [c] ≠ txt [if m = 0 then 61 else 97] := by decide +kernel
  have k1 := key (z := "#") fun c hc => (k0 m hm c hc).1
  have k2 := key (z := "") fun c hc => (k0 m hm c hc).2.1
  have k3 := key (z := "ab") fun c hc => (k0 m hm c hc).2.2.1
  have k4 := key (z := txt [if m = 0 then 61 else 97]) fun c hc => (k0 m hm c hc).2.2.2
  rcases h with rfl | rfl | rfl | rfl | rfl | rfl
  · simp [F_Lesson_score, sx_Lesson_score, fs, k1]
  · simp [F_Lesson_score, sx_Lesson_score]
  · simp [F_Lesson_score, sx_Lesson_score, fs, k2]
  · simp [F_Lesson_score, sx_Lesson_score, fs, k3]
  · simp [F_Lesson_score, sx_Lesson_score]
  · show F_Lesson_score K [.loc n, .str (txt [if m = 0 then 61 else 97])] S = _
    generalize txt [if m = 0 then 61 else 97] = z at *
    simp [F_Lesson_score, sx_Lesson_score, fs, k4]
theorem r_redo0 {S : Store} {n r q : Nat} {bk : Bk} {ss : List Nat} {rs : List (Nat × Bool)} (h : EAt K S n r q bk ss rs []) : F_Lesson_redo K [.loc n] S = .exc (He.ga K "Nothing") S := by
  have fs := h.fld "taken"
  rw [e_taken] at fs
  have eq : gEq S (.loc q) (.lst []) = some (.bl true) := eq_same (S := S) pl_int (x := .loc q) (y := .lst []) (xs := []) (LstAt.cell h.c).lst rfl
  simp [F_Lesson_redo, sx_Lesson_redo, fs, eq]
theorem r_known0 {S : Store} {n r q : Nat} {bk : Bk} {ss : List Nat} {ts : List (Nat × Bool)} (h : EAt K S n r q bk ss [] ts) {c d : Nat} {l : List Nat} (e : ss = c :: d :: l) (hl : l ≠ []) : F_Lesson_known K [.loc n] S = .ok (.lst [tD [c], tD [d]], S) := by
  have z : (10 : Nat) ≤ sizeLine := by decide
  have z0 : (0 : Nat) < sizeLine := by decide
  have z1 : (1 : Nat) < sizeLine := by decide
  have f1 := h.fld "rows"
  rw [e_rows] at f1
  have f2 := h.fld "signs"
  rw [e_signs] at f2
  have i0 : isIns (He.ga K "Lesson") S "many_known" (.loc n) = true := h.isi rfl
  have i1 : isIns (He.ga K "Lesson") S "score_of" (.loc n) = true := h.isi rfl
  have len := (LstAt.cell h.b).len
  have s0 : gSl S (.loc r) none (some 0) = some (.lst []) := by
    show (lstOf S (.loc r)).map (fun ds => D.lst (cutD ds none (some 0))) = _
    rw [(LstAt.cell h.b).lst]
    rfl
  have s2 : gSl S (.lst (sgnD ss)) none (some 2) = some (.lst [tD [c], tD [d]]) := by
    show some (D.lst (cutD (sgnD ss) none (some 2))) = _
    rw [e]
    have := cut_take (ds := sgnD (c :: d :: l)) (i := 2) (by simp [sgnD])
    rw [show ((2 : Nat) : Int) = 2 from rfl] at this
    rw [this]
    rfl
  have len2 : gLen S [.lst (sgnD ss)] = some (.int (ss.length : Int)) := by rw [op_len_l]; unfold sgnD; rw [List.length_map]
  have c2 : (2 : Int) < (ss.length : Int) := by
    rw [e]
    have := List.length_pos_iff.mpr hl
    simp
    omega
  have sc := fun c => r_score_of (K := K) (S := S) (x0 := .loc n) (x := .lst []) (rs := []) .data (c := c)
  have e0 : ∀ c, scF c [] 0 = 0 := fun _ => rfl
  simp only [e0] at sc
  have ga : gAll S [.lst [.bl false, .bl false]] = some (.bl false) := rfl
  have rg : rangeD 0 1 = [.int 0] := rfl
  generalize hcD : tD [c] = cD at *
  generalize hdD : tD [d] = dD at *
  have sc1 := sc c
  have sc2 := sc d
  rw [hcD] at sc1
  rw [hdD] at sc2
  generalize sgnD ss = L at *
  have mk : F_Lesson_many_known K [.loc n] S = .ok (.int 2, S) := by
    simp at len
    simp [F_Lesson_many_known, sx_Lesson_many_known, sxFor, ixR1, f1, len, rg, forL, lp_Lesson_many_known_1, s0, f2, len2, c2, exLc, ixV, itemsOf, wipeD, lcL, ckB, s2, el_Lesson_many_known_0, i1, sc1, sc2, z0, z1, ga]
  simp [F_Lesson_known, sx_Lesson_known, f2, i0, mk, s2]

theorem at_lastG {α : Type} {ds : List α} (h : 0 < ds.length) : atI ds (-1) = ds.getLast? := by
  unfold atI ixN
  rw [if_neg (by omega), if_pos (by omega)]
  rw [List.getLast?_eq_getElem?]
  simp only [Option.bind_some]
  rw [show ((-1 : Int) + (ds.length : Int)).toNat = ds.length - 1 by omega]

/-! ### listeners -/
abbrev LC (K : PySem.W.Frag) : Addr := He.ga K "Listener"
def lfs (bk : Bk) (u : Int) (r : Nat) : List (Str × D) := [("book", bkD bk), ("unit", .int u), ("some", .loc r)]
structure LAt (K : PySem.W.Frag) (S : Store) (n r : Nat) (bk : Bk) (u : Int) (rs : List (Bool × Int)) : Prop where
  a : S[n]? = some (.ins (LC K) (lfs bk u r))
  b : S[r]? = some (.lst (rs.map runD))
  ne : n ≠ r
section
variable {S : Store} {n r : Nat} {bk : Bk} {u : Int} {rs : List (Bool × Int)}
theorem LAt.more (h : LAt K S n r bk u rs) (c : List Cell) : LAt K (S ++ c) n r bk u rs := by
  have l1 := (List.getElem?_eq_some_iff.mp h.a).1
  have l2 := (List.getElem?_eq_some_iff.mp h.b).1
  exact ⟨by rw [List.getElem?_append_left l1, h.a], by rw [List.getElem?_append_left l2, h.b], h.ne⟩
theorem LAt.fld (h : LAt K S n r bk u rs) (x : Str) : fldOf S (.loc n) (He.ga K "Listener") x = (lfs bk u r).lookup x := by
  unfold fldOf; simp only [h.a, if_true]
theorem LAt.isi (h : LAt K S n r bk u rs) {x : Str} (e : ((lfs bk u r).lookup x).isNone = true) : isIns (He.ga K "Listener") S x (.loc n) = true := by
  unfold isIns; simp only [h.a]; rw [e]; simp [LC]
@[simp] theorem l_book : (lfs bk u r).lookup ("book" : Str) = some (bkD bk) := rfl
@[simp] theorem l_unit : (lfs bk u r).lookup ("unit" : Str) = some (D.int u) := rfl
@[simp] theorem l_some : (lfs bk u r).lookup ("some" : Str) = some (D.loc r) := rfl
theorem LAt.at (h : LAt K S n r bk u rs) : LstAt S (.loc r) (rs.map runD) := .cell h.b
theorem r_linit {S : Store} (o : BookOk bk) (h1 : 1 ≤ u) (h9 : u ≤ 9) : F_Listener_init K [.loc S.length, bkD bk, .int u] (S ++ [.ins (He.ga K "Listener") []]) = .ok (.non, S ++ [.ins (LC K) (lfs bk u (S.length + 1)), .lst []]) := by
  have nb := fun S : Store => r_need_book (K := K) (S := S) o
  have nu := fun S : Store => r_need_unit (K := K) (S := S) h1 h9
  have gd : ∀ S : Store, (gDict S [bkD bk]).map D.dct = some (bkD bk) := fun S => rfl
  have s1 : ∀ (R : Store) (fs : List (Str × D)) (x : Str) (d : D), fs.length < 1000 → gSetF (He.ga K "Listener") x (S ++ .ins (He.ga K "Listener") fs :: R) (.loc S.length) d = some (S ++ .ins (He.ga K "Listener") (putFD x d fs) :: R) := fun R fs x d hl => by
    unfold gSetF
    have e : (S ++ Cell.ins (He.ga K "Listener") fs :: R)[S.length]? = some (.ins (He.ga K "Listener") fs) := by rw [List.getElem?_append_right (Nat.le_refl _)]; simp
    simp only [e]
    rw [if_pos ⟨trivial, hl⟩, List.set_append_right _ _ (Nat.le_refl _), Nat.sub_self]
    rfl
  generalize hdb : bkD bk = db at *
  have t1 := s1 [] [] "book" db (by simp)
  have t2 := s1 [] [("book", db)] "unit" (.int u) (by simp)
  have t3 := s1 [.lst []] [("book", db), ("unit", .int u)] "some" (.loc (S.length + 1)) (by simp)
  have p1 : putFD "book" db [] = ([("book", db)] : List (Str × D)) := rfl
  have p2 : putFD "unit" (.int u) ([("book", db)] : List (Str × D)) = ([("book", db), ("unit", .int u)] : List (Str × D)) := rfl
  have p3 : putFD "some" (.loc (S.length + 1)) ([("book", db), ("unit", .int u)] : List (Str × D)) = ([("book", db), ("unit", .int u), ("some", .loc (S.length + 1))] : List (Str × D)) := rfl
  rw [p1] at t1
  rw [p2] at t2
  rw [p3] at t3
  have e3 : S ++ [Cell.ins (LC K) (lfs bk u (S.length + 1)), .lst []] = S ++ [.ins (He.ga K "Listener") [("book", db), ("unit", .int u), ("some", .loc (S.length + 1))], .lst []] := by rw [← hdb]; rfl
  rw [e3]
  simp [F_Listener_init, sx_Listener_init, nb, nu, gd, t1, t2, t3]
theorem lat_new {S : Store} : LAt K (S ++ [.ins (LC K) (lfs bk u (S.length + 1)), .lst []]) S.length (S.length + 1) bk u [] :=
  ⟨by rw [List.getElem?_append_right (Nat.le_refl _)]; simp, by rw [List.getElem?_append_right (by omega)]; simp, by omega⟩
theorem LAt.set (h : LAt K S n r bk u rs) {x : Str} {d : D} {u' : Int} {r' : Nat} (e : putFD x d (lfs bk u r) = lfs bk u' r') : gSetF (He.ga K "Listener") x S (.loc n) d = some (S.set n (.ins (LC K) (lfs bk u' r'))) := by
  unfold gSetF
  simp only [h.a]
  rw [if_pos ⟨trivial, by show 3 < 1000; decide⟩, e]
theorem r_set_unit (h : LAt K S n r bk u rs) {u' : Int} (h1 : 1 ≤ u') (h9 : u' ≤ 9) : ∃ S', F_Listener_set_unit K [.loc n, .int u'] S = .ok (.non, S') ∧ LAt K S' n r bk u' rs := by
  have l1 := (List.getElem?_eq_some_iff.mp h.a).1
  have nu := r_need_unit (K := K) (S := S) h1 h9
  have st := h.set (x := "unit") (d := .int u') (u' := u') (r' := r) rfl
  refine ⟨S.set n (.ins (LC K) (lfs bk u' r)), by simp [F_Listener_set_unit, sx_Listener_set_unit, nu, st], ?_, ?_, h.ne⟩
  · rw [List.getElem?_set_self l1]
  · rw [List.getElem?_set_ne h.ne, h.b]
/-- what becomes of runs by one more -/
def hearL (rs : List (Bool × Int)) (b : Bool) (tk : Int) : Option (List (Bool × Int)) := match rs.getLast? with
  | some (c, x) => if c = b then (if 2000 < x + tk then none else some (rs.dropLast ++ [(b, x + tk)])) else if 200 ≤ rs.length then none else some (rs ++ [(b, tk)])
  | none => some [(b, tk)]
theorem LAt.put (h : LAt K S n r bk u rs) (ss : List (Bool × Int)) : LAt K (S.set r (.lst (ss.map runD))) n r bk u ss := by
  have l2 := (List.getElem?_eq_some_iff.mp h.b).1
  exact ⟨by rw [List.getElem?_set_ne h.ne.symm, h.a], by rw [List.getElem?_set_self l2], h.ne⟩
theorem r_hear (h : LAt K S n r bk u rs) (hl : rs.length ≤ 1000) {b : Bool} {tk : Int} (t1 : 1 ≤ tk) (t2 : tk ≤ 2000) : match hearL rs b tk with
    | some ss => ∃ S', F_Listener_hear K [.loc n, .bl b, .int tk] S = .ok (.non, S') ∧ LAt K S' n r bk u ss
    | none => F_Listener_hear K [.loc n, .bl b, .int tk] S = .exc (He.ga K "BadRuns") S := by
  have hz : (2000 : Nat) ≤ sizeLine := by decide
  have fs := h.fld "some"
  rw [l_some] at fs
  have ne := ne_nilG (S := S) pl_bz (x := .loc r) (xs := rs) h.at.lst
  have len := h.at.len
  rw [List.length_map] at len
  have ix := ix_loc (S := S) (i := -1) h.b
  have il : isList S (.loc r) = true := by unfold isList; rw [h.at.lst]; rfl
  have cl : cellL S[r]? = some (rs.map runD) := by rw [h.b]; rfl
  have ap : gAppend S (.loc r) [.tup [.bl b, .int tk]] = some (.non, S.set r (.lst (rs.map runD ++ [.tup [.bl b, .int tk]]))) := by
    unfold gAppend
    simp only [cl]
    rw [if_pos (by simp; omega)]
  rcases List.eq_nil_or_concat rs with h0 | ⟨a, t, h0⟩
  · subst h0
    have pt := h.put [(b, tk)]
    refine ⟨_, ?_, pt⟩
    simp only [List.map_nil, List.isEmpty_nil, Bool.not_true, List.nil_append, List.length_nil] at ne ap len
    rw [show [(b, tk)].map runD = [.tup [.bl b, .int tk]] from rfl]
    simp [F_Listener_hear, sx_Listener_hear, t1, t2, fs, ne, len, il, ap]
  · rw [List.concat_eq_append] at h0
    obtain ⟨c, x⟩ := t
    have hne : rs.isEmpty = false := by rw [h0]; cases a <;> rfl
    have gl : rs.getLast? = some (c, x) := by rw [h0, List.getLast?_concat]
    have em : rs.map runD = a.map runD ++ [.tup [.bl c, .int x]] := by rw [h0]; simp [runD]
    rw [em, at_lastG (by simp), List.getLast?_concat] at ix
    rw [hne] at ne
    unfold hearL
    rw [gl]
    dsimp only
    by_cases hc : c = b
    · subst hc
      rw [if_pos rfl]
      by_cases hx : 2000 < x + tk
      · rw [if_pos hx]
        show F_Listener_hear K _ S = _
        simp [F_Listener_hear, sx_Listener_hear, t1, t2, fs, ne, ix, hx]
      · rw [if_neg hx]
        have pt := h.put (rs.dropLast ++ [(c, x + tk)])
        refine ⟨_, ?_, pt⟩
        have sl : gSetL S (.loc r) (.int (-1)) (.tup [.bl c, .int (x + tk)]) = some (S.set r (.lst ((rs.dropLast ++ [(c, x + tk)]).map runD))) := by
          have h2 : ixN (rs.map runD).length (-1) = some a.length := by
            unfold ixN
            rw [if_neg (by decide), em, if_pos (by simp; omega)]
            congr 1
            simp
            omega
          show (match cellL S[r]? with
            | some ds => (ixN ds.length (-1)).map fun j => S.set r (Cell.lst (ds.set j (.tup [.bl c, .int (x + tk)])))
            | none => none) = _
          rw [cl]
          simp only [h2, Option.map_some]
          rw [em, h0, List.dropLast_concat, List.set_append_right _ _ (by simp)]
          simp [runD]
        simp [F_Listener_hear, sx_Listener_hear, t1, t2, fs, ne, ix, hx, gxSub, sl]
    · rw [if_neg hc]
      have hcb : (c == b) = false := by simpa using hc
      by_cases hx : 200 ≤ rs.length
      · rw [if_pos hx]
        show F_Listener_hear K _ S = _
        have hx' : (200 : Int) ≤ (rs.length : Int) := by omega
        simp [F_Listener_hear, sx_Listener_hear, t1, t2, fs, ne, ix, hcb, len, hx']
      · rw [if_neg hx]
        have pt := h.put (rs ++ [(b, tk)])
        refine ⟨_, ?_, pt⟩
        have hx' : ¬ (200 : Int) ≤ (rs.length : Int) := by omega
        rw [show (rs ++ [(b, tk)]).map runD = rs.map runD ++ [.tup [.bl b, .int tk]] by simp [runD]]
        generalize rs.map runD = L at *
        simp [F_Listener_hear, sx_Listener_hear, t1, t2, fs, ne, ix, hcb, len, hx', il, ap]
theorem r_runs_now (h : LAt K S n r bk u rs) : F_Listener_runs_now K [.loc n] S = .ok (.loc S.length, S ++ [.lst (rs.map runD)]) := by
  have fs := h.fld "some"
  rw [l_some] at fs
  have sq : seqOf S (.loc r) = some (rs.map runD) := h.at.lst
  generalize rs.map runD = L at *
  simp [F_Listener_runs_now, sx_Listener_runs_now, exNB, gListL, fs, sq]
/-- the last silence of so many units, behind a tone -/
def cutF (k u : Int) : Nat → List (Bool × Int) → Int → Int
  | _, [], f => f
  | i, p :: r, f => cutF k u (i + 1) r (if 0 < i ∧ p.1 = false ∧ k * u ≤ p.2 then (i : Int) + 1 else f)
theorem r_cut (h : LAt K S n r bk u rs) (h1 : 1 ≤ u) (h9 : u ≤ 9) {k : Int} (k1 : 1 ≤ k) (k7 : k ≤ 7) : F_Listener_cut K [.loc n, .int k] S = .ok (.int (cutF k u 0 rs 0), S) := by
  have fs := h.fld "some"
  have fu := h.fld "unit"
  rw [l_some] at fs
  rw [l_unit] at fu
  have bk : (Builtin.Int.intBits k : Int) + (Builtin.Int.intBits u : Int) ≤ 134217728 := bits_ok (a := 4) (b := 4) (by omega) (by omega) (by decide)
  obtain ⟨ck, s1, s2, s3⟩ := h.at.src
  have key : ∀ (r : List (Bool × Int)) (i : Nat) (f : Int) (a3 a4 a5 : Option D), ∃ b3 b4 b5, forL (gT 2 (gsC (gN 3) (gsC (gT 2 (gsC (gN 4) (gsC (gN 5) gsN))) gsN))) (lp_Listener_cut_0 K) ck (enD runD i r) [some (.loc n), some (.int k), some (.int f), a3, a4, a5] S = .ok (.nx, [some (.loc n), some (.int k), some (.int (cutF k u i r f)), b3, b4, b5], S) := by
    intro r
    induction r with
    | nil => intro i f a3 a4 a5; exact ⟨_, _, _, rfl⟩
    | cons p r ih =>
      intro i f a3 a4 a5
      obtain ⟨b, x⟩ := p
      obtain ⟨b3, b4, b5, e⟩ := ih (i + 1) (if 0 < i ∧ b = false ∧ k * u ≤ x then (i : Int) + 1 else f) (some (.int (i : Int))) (some (.bl b)) (some (.int x))
      refine ⟨b3, b4, b5, ?_⟩
      have st : lp_Listener_cut_0 K [some (.loc n), some (.int k), some (.int f), some (.int (i : Int)), some (.bl b), some (.int x)] S = .ok (.nx, [some (.loc n), some (.int k), some (.int (if 0 < i ∧ b = false ∧ k * u ≤ x then (i : Int) + 1 else f)), some (.int (i : Int)), some (.bl b), some (.int x)], S) := by
        by_cases hi : 0 < i
        · have hi' : (0 : Int) < (i : Int) := by omega
          cases b with
          | true => simp [lp_Listener_cut_0, hi', hi]
          | false =>
            by_cases hx : k * u ≤ x
            · simp [lp_Listener_cut_0, hi', hi, fu, bk, hx]
            · simp [lp_Listener_cut_0, hi', hi, fu, bk, hx]
        · have hi' : ¬ (0 : Int) < (i : Int) := by omega
          simp [lp_Listener_cut_0, hi', hi]
      rw [enD, forL, cutF]
      refine Eq.trans (congrArg (fun r => Res.bind r _) st) ?_
      simp only [Res.bind_ok, s3, if_true]
      exact e
  obtain ⟨b3, b4, b5, e⟩ := key rs 0 0 none none none
  have it := itemsV_at (S := S) runD (x := .loc r) (l := rs) (ck := ck) s1
  generalize enD runD 0 rs = I at *
  simp [F_Listener_cut, sx_Listener_cut, sxFor, ixEV, fs, it, e]
end

open TL (spl joinL)
/-! ### listeners: what they tell -/
theorem textR_len (bk : Bk) (l : List Nat) : (textR bk l).length ≤ 3 * l.length + 3 := by
  have h2 := spl3_len l
  have key : ∀ ws : List (List Nat), ((ws.map (wordR bk)).map List.length).sum ≤ (ws.map List.length).sum + ws.length := fun ws => by
    induction ws with
    | nil => simp
    | cons w r ih =>
      have := wordR_len bk w
      simp only [List.map_cons, List.sum_cons, List.length_cons]
      omega
  have h1 := key (spl [32, 47, 32] 0 [] l)
  have h3 := len_joinL2 [32] ((spl [32, 47, 32] 0 [] l).map (wordR bk)) (by simp [spl_ne])
  unfold textR
  simp only [List.length_cons, List.length_nil, List.length_map] at h3
  omega
def textL (bk : Bk) (row : List Nat) : List Nat := if row = [] then [] else textR bk row
def wordsL (bk : Bk) (row : List Nat) : List (List Nat) := if row = [] then [] else spl [32] 0 [] (textR bk row)
theorem cut_nat (k u : Int) : ∀ (rs : List (Bool × Int)) (i : Nat) (f : Nat), f ≤ i + rs.length → ∃ c : Nat, cutF k u i rs (f : Int) = (c : Int) ∧ c ≤ i + rs.length
  | [], i, f, h => ⟨f, rfl, h⟩
  | p :: r, i, f, h => by
    simp only [List.length_cons] at h ⊢
    rw [cutF]
    by_cases hc : 0 < i ∧ p.1 = false ∧ k * u ≤ p.2
    · rw [if_pos hc]
      obtain ⟨c, h1, h2⟩ := cut_nat k u r (i + 1) (i + 1) (by omega)
      exact ⟨c, by rw [← h1]; rfl, by omega⟩
    · rw [if_neg hc]
      obtain ⟨c, h1, h2⟩ := cut_nat k u r (i + 1) f (by omega)
      exact ⟨c, h1, by omega⟩
section
variable {S : Store} {n r : Nat} {bk : Bk} {u : Int} {rs : List (Bool × Int)} (h : LAt K S n r bk u rs) (h1 : 1 ≤ u) (h9 : u ≤ 9) (hl : rs.length ≤ 1000)
include h h1 h9 hl
theorem r_take (o : BookOk bk) {c : Nat} (hc : cutF 5 u 0 rs 0 = (c : Int)) (hcl : c ≤ rs.length) : ∃ S' r' k, F_Listener_take K [.loc n] S = .ok (.loc k, S') ∧ S'[k]? = some (.lst ((wordsL bk (rowL u (innerR (rs.take c)))).map tD)) ∧ LAt K S' n r' bk u (rs.drop c) ∧ k ≠ n ∧ k ≠ r' := by
  have hz : (200000 : Nat) ≤ sizeLine := by decide
  have ln := (List.getElem?_eq_some_iff.mp h.a).1
  have fs := h.fld "some"
  have fu := h.fld "unit"
  rw [l_some] at fs
  rw [l_unit] at fu
  have ct := r_cut (K := K) h h1 h9 (k := 5) (by decide) (by decide)
  rw [hc] at ct
  have i0 : isIns (He.ga K "Listener") S "cut" (.loc n) = true := h.isi rfl
  have sl : gSl S (.loc r) none (some (c : Int)) = some (.lst ((rs.take c).map runD)) := by
    show (lstOf S (.loc r)).map (fun ds => D.lst (cutD ds none (some (c : Int)))) = _
    rw [h.at.lst, Option.map_some, cut_take (by simpa using hcl), List.map_take]
  have ri := r_row_inX (K := K) (S := S) (x := .lst ((rs.take c).map runD)) .data h1 h9 (rs := rs.take c) (by simp; omega)
  have lr := h.at.lst
  have cd : cutD (rs.map runD) (some (c : Int)) none = (rs.drop c).map runD := by rw [cut_drop, List.map_drop]
  have st : gSetF (He.ga K "Listener") "some" (S ++ [Cell.lst ((rs.drop c).map runD)]) (.loc n) (.loc S.length) = some ((S ++ [Cell.lst ((rs.drop c).map runD)]).set n (.ins (LC K) (lfs bk u S.length))) := (h.more _).set rfl
  have hn2 : n < (S ++ [Cell.lst ((rs.drop c).map runD)]).length := by simp; omega
  have hA : ((S ++ [Cell.lst ((rs.drop c).map runD)]).set n (.ins (LC K) (lfs bk u S.length)))[n]? = some (.ins (LC K) (lfs bk u S.length)) := by rw [List.getElem?_set_self hn2]
  have hB : ((S ++ [Cell.lst ((rs.drop c).map runD)]).set n (.ins (LC K) (lfs bk u S.length)))[S.length]? = some (.lst ((rs.drop c).map runD)) := by
    rw [List.getElem?_set_ne (by omega), get_end]
  have la : LAt K ((S ++ [Cell.lst ((rs.drop c).map runD)]).set n (.ins (LC K) (lfs bk u S.length))) n S.length bk u (rs.drop c) := ⟨hA, hB, by omega⟩
  have hlen : ((S ++ [Cell.lst ((rs.drop c).map runD)]).set n (.ins (LC K) (lfs bk u S.length))).length = S.length + 1 := by simp
  have fb := la.fld "book"
  rw [l_book] at fb
  generalize hS2 : (S ++ [Cell.lst ((rs.drop c).map runD)]).set n (.ins (LC K) (lfs bk u S.length)) = S2 at *
  have hi := innerR_len (rs.take c)
  have hr := rowL_len u (innerR (rs.take c))
  have htk : (rs.take c).length ≤ rs.length := by simp; omega
  generalize hrow : rowL u (innerR (rs.take c)) = row at *
  have tr := r_text_of_row (K := K) (S := S2) o (r := row) (by omega)
  have ne := ne_tD (S := S2) (a := row) (b := [])
  rw [show tD [] = .str "" from rfl] at ne
  have tl := textR_len bk row
  have sp := g_split1 (S := S2) (l := textR bk row) (by omega)
  refine ⟨S2 ++ [.lst ((wordsL bk row).map tD)], S.length, S2.length, ?_, get_end, la.more _, by omega, by omega⟩
  unfold wordsL
  by_cases h0 : row = []
  · subst h0
    simp only [beq_self_eq_true, Bool.not_true] at ne
    rw [show tD [] = .str "" from rfl] at ne ri
    rw [if_pos rfl]
    generalize (rs.drop c).map runD = L1 at *
    generalize (rs.take c).map runD = L0 at *
    simp [F_Listener_take, sx_Listener_take, i0, ct, fs, fu, sl, ri, lr, cd, st, ne]
  · have hb : (row == []) = false := by simpa using h0
    rw [hb] at ne
    rw [if_neg h0]
    have is : isStr S2 (tD (textR bk row)) = true := rfl
    generalize tD (textR bk row) = dt at *
    generalize tD row = d at *
    generalize (rs.drop c).map runD = L1 at *
    generalize (rs.take c).map runD = L0 at *
    generalize bkD bk = db at *
    simp [F_Listener_take, sx_Listener_take, i0, ct, fs, fu, sl, ri, lr, cd, st, ne, fb, tr, is, sp]
end

open TL (spl joinL)
/-! ### as much as can be -/
def rsK (k : Nat) : List (Bool × Int) := (true, 2000) :: (List.range k).map fun j => (decide (j % 2 = 1), 1)
theorem rsK_succ (k : Nat) : rsK (k + 1) = rsK k ++ [(decide (k % 2 = 1), 1)] := by
  unfold rsK
  rw [List.range_succ, List.map_append]
  rfl
theorem rsK_len (k : Nat) : (rsK k).length = k + 1 := by simp [rsK]
theorem rsK_hear {k : Nat} (h : k < 199) : hearL (rsK k) (decide (k % 2 = 1)) 1 = some (rsK (k + 1)) := by
  have hl := rsK_len k
  rw [rsK_succ]
  unfold hearL
  cases k with
  | zero => rfl
  | succ k =>
    rw [rsK_succ, List.getLast?_concat]
    dsimp only
    rw [if_neg (by
      by_cases h2 : k % 2 = 1
      · rw [decide_eq_true h2, decide_eq_false (by omega)]; simp
      · rw [decide_eq_false h2, decide_eq_true (by omega)]; simp), if_neg (by rw [← rsK_succ]; omega)]
def rsF : List (Bool × Int) := rsK 198 ++ [(false, 2000)]
theorem rsF_facts : cutF 5 1 0 rsF 0 = ((200 : Nat) : Int) ∧ (wordsL fb (rowL 1 (innerR (rsF.take 200)))).length = 1 ∧ rsF.drop 200 = [] ∧ rsF.length = 200 ∧ hearL (rsK 199) true 1 = none ∧ hearL (rsK 199) false 1999 = some rsF := by
  refine ⟨by decide +kernel, by decide +kernel, by decide +kernel, by decide +kernel, by decide +kernel, by decide +kernel⟩
theorem par_eq (k : Nat) : (((k : Int) % 2) == 1) = decide (k % 2 = 1) := by
  by_cases h : k % 2 = 1
  · rw [decide_eq_true h]
    have : (k : Int) % 2 = 1 := by omega
    simp [this]
  · rw [decide_eq_false h]
    have : (k : Int) % 2 = 0 := by omega
    simp [this]
theorem r_full (hx : xcsB K xnames "KeysError" = true) {S : Store} : ∃ S', F_law_full_right K [bkD fb] S = .ok (.bl true, S') := by
  have hz : (200000 : Nat) ≤ sizeLine := by decide
  have hB := wz_at hx (z := "BadRuns") (by decide +kernel)
  have nn : ∀ S : Store, gNe S (.str "BadRuns") (.str "BadRuns") = some (.bl false) := fun S => by rw [op_ne_s]; simp
  have ini := r_linit (K := K) (S := S) fb_ok (u := 1) (by decide) (by decide)
  have la0 := lat_new (K := K) (S := S) (bk := fb) (u := 1)
  have rh0 := r_hear (K := K) la0 (by simp) (b := true) (tk := 2000) (by decide) (by decide)
  obtain ⟨S1, e1, la1⟩ := (rh0 : ∃ S', _ ∧ LAt K S' _ _ _ _ [(true, 2000)])
  have rh1 := r_hear (K := K) la1 (by simp) (b := true) (tk := 1) (by decide) (by decide)
  have e2 : F_Listener_hear K [.loc S.length, .bl true, .int 1] S1 = .exc (He.ga K "BadRuns") S1 := rh1
  have i0 : isIns (He.ga K "Listener") (S ++ [.ins (LC K) (lfs fb 1 (S.length + 1)), .lst []]) "hear" (.loc S.length) = true := la0.isi rfl
  have i1 : isIns (He.ga K "Listener") S1 "hear" (.loc S.length) = true := la1.isi rfl
  have la1' : LAt K S1 S.length (S.length + 1) fb 1 (rsK 0) := la1
  obtain ⟨ρ', S2, e3, ⟨a2, e4⟩, la2⟩ := forL_pre (List.range 199) (f := natD) (g := gN 2) (s := lp_law_full_right_0 K) (ck := none) (I := fun pre ρ S' => (∃ a2, ρ = [some (bkD fb), some (.loc S.length), a2]) ∧ LAt K S' S.length (S.length + 1) fb 1 (rsK pre.length))
    (ρ := [some (bkD fb), some (.loc S.length), none]) (S := S1) ⟨⟨_, rfl⟩, la1'⟩ (fun pre j post hp ρ S' ⟨⟨a2, e⟩, la⟩ => by
      subst e
      have hj : j = pre.length := by
        have := congrArg (fun l => l[pre.length]?) hp
        simp at this
        exact (List.getElem?_eq_some_iff.mp this).2 ▸ by simp
      have hjl : j < 199 := List.mem_range.mp (by rw [hp]; simp)
      subst hj
      have rh := r_hear (K := K) la (by rw [rsK_len]; omega) (b := decide (pre.length % 2 = 1)) (tk := 1) (by decide) (by decide)
      rw [rsK_hear hjl] at rh
      obtain ⟨S3, e, la3⟩ := rh
      have i2 : isIns (He.ga K "Listener") S' "hear" (.loc S.length) = true := la.isi rfl
      have pe := par_eq pre.length
      refine ⟨_, rfl, [some (bkD fb), some (.loc S.length), some (natD pre.length)], S3, .inl ?_, rfl, ⟨_, rfl⟩, by rw [List.length_append]; exact la3⟩
      rw [← pe] at e
      generalize bkD fb = db at *
      unfold natD
      simp [lp_law_full_right_0, i2, e])
  subst e4
  rw [List.length_range] at la2
  obtain ⟨f1, f2, f3, f4, f5, f6⟩ := rsF_facts
  have rh2 := r_hear (K := K) la2 (by rw [rsK_len]; omega) (b := true) (tk := 1) (by decide) (by decide)
  rw [f5] at rh2
  have rn := r_runs_now (K := K) la2
  have la2' := la2.more [Cell.lst ((rsK 199).map runD)]
  have len := (LstAt.end (S := S2) (ds := (rsK 199).map runD)).len
  rw [List.length_map, rsK_len] at len
  have rh3 := r_hear (K := K) la2' (by rw [rsK_len]; omega) (b := false) (tk := 1999) (by decide) (by decide)
  rw [f6] at rh3
  obtain ⟨S3, e5, la3⟩ := rh3
  have i2 : isIns (He.ga K "Listener") S2 "hear" (.loc S.length) = true := la2.isi rfl
  have i3 : isIns (He.ga K "Listener") S2 "runs_now" (.loc S.length) = true := la2.isi rfl
  have i4 : isIns (He.ga K "Listener") (S2 ++ [.lst ((rsK 199).map runD)]) "hear" (.loc S.length) = true := la2'.isi rfl
  have rn3 := r_runs_now (K := K) la3
  have i5 : isIns (He.ga K "Listener") S3 "runs_now" (.loc S.length) = true := la3.isi rfl
  have la4 := la3.more [Cell.lst (rsF.map runD)]
  have ix := ix_loc (S := S3 ++ [.lst (rsF.map runD)]) (i := -1) get_end
  have at1 : atI (rsF.map runD) (-1) = some (.tup [.bl false, .int 2000]) := by
    unfold rsF
    rw [List.map_append, at_lastG (by simp)]
    simp [runD]
  rw [at1] at ix
  obtain ⟨S5, r5, kk, e6, ek, la5, _, _⟩ := r_take (K := K) la4 (by decide) (by decide) (by rw [f4]; decide) fb_ok (c := 200) f1 (by rw [f4]; decide)
  have i6 : isIns (He.ga K "Listener") (S3 ++ [.lst (rsF.map runD)]) "take" (.loc S.length) = true := la4.isi rfl
  have len5 := (LstAt.cell ek).len
  rw [List.length_map, f2] at len5
  rw [f3] at la5
  have rn5 := r_runs_now (K := K) la5
  have i7 : isIns (He.ga K "Listener") S5 "runs_now" (.loc S.length) = true := la5.isi rfl
  have eq5 : gEq (S5 ++ [.lst []]) (.loc S5.length) (.lst []) = some (.bl true) := eq_same (S := S5 ++ [.lst []]) pl_int (x := .loc S5.length) (y := .lst []) (xs := []) lst_end rfl
  have eqt : ∀ S : Store, gEq S (.tup [.bl false, .int 2000]) (.tup [.bl false, .int 2000]) = some (.bl true) := fun S => by kernel_rfl
  have rg := range_nat 199
  have rg' : rangeD 0 199 = (List.range 199).map natD := rg
  simp only [List.map_nil] at rn5
  refine ⟨S5 ++ [.lst []], ?_⟩
  generalize (List.range 199).map natD = LR at *
  generalize (rsK 199).map runD = L1 at *
  generalize rsF.map runD = L2 at *
  generalize bkD fb = db at *
  simp [F_law_full_right, sx_law_full_right, ini, i0, e1, exTold, i1, e2, hB, nn, sxFor, ixR1, rg', e3, i2, rh2, i3, rn, len, i4, e5, i5, rn3, ix, eqt, i6, e6, len5, i7, rn5, eq5]

def T81 (ns : List Int) (k : Nat) (r : Res (Fl × DEnv × Store)) : Prop := ∃ b2 b3 b4 b5 b6 b7 b8 b9 b10 b11 b12 S', r = .ok (.nx, [some (.frz (ns.map .int)), some (natD k), b2, b3, b4, b5, b6, b7, b8, b9, b10, b11, b12], S')
theorem seq_T {ns : List Int} {k : Nat} {a b : Sx} {ρ ρ1 : DEnv} {S S1 : Store} (h1 : a ρ S = .ok (.nx, ρ1, S1)) (h2 : T81 ns k (b ρ1 S1)) : T81 ns k (sxSeq a b ρ S) := by
  unfold sxSeq
  rw [h1]
  exact h2
theorem ev_dct1 {ρ : DEnv} {S : Store} {k : Str} {v : D} : exDct (pxC (exC (.str k)) (exC v) pxN) ρ S = .ok (.dct [(.inr k, v)], S) := rfl
theorem ev_dct2 {ρ : DEnv} {S : Store} : exDct (pxC (exC (.str "a")) (exC (.str ".")) (pxC (exC (.str "b")) (exC (.str ".")) pxN)) ρ S = .ok (.dct [(.inr "a", .str "."), (.inr "b", .str ".")], S) := rfl
theorem linit_exc {S : Store} {x a c : D} {C : Addr} (h : F_need_book K [a] S = .exc C S ∨ (F_need_book K [a] S = .ok (.non, S) ∧ F_need_unit K [c] S = .exc C S)) : F_Listener_init K [x, a, c] S = .exc C S := by
  rcases h with h | ⟨h1, h⟩
  · simp [F_Listener_init, sx_Listener_init, h]
  · simp [F_Listener_init, sx_Listener_init, h1, h]
theorem einit_exc {S : Store} {x a c : D} {C : Addr} (h : F_need_book K [a] S = .exc C S) : F_Lesson_init K [x, a, c] S = .exc C S := by
  simp [F_Lesson_init, sx_Lesson_init, h]
section
variable {S : Store} {x0 x1 x2 x3 x4 x5 x6 x7 x8 x9 x10 x11 x12 : Option D}
theorem lp1 (hx : xcsB K xnames "KeysError" = true) {d : D} (hd : d ∈ badB) : ∃ S', lp_law_1 K [x0, x1, x2, x3, x4, some d, x6, x7, x8, x9, x10, x11, x12] S = .ok (.nx, [x0, x1, x2, x3, x4, some d, some (.loc (S.length + 1)), x7, x8, x9, x10, x11, x12], S') := by
  have hB := wz_at hx (z := "BadBook") (by decide +kernel)
  have e1 := fun (S : Store) (x c : D) => linit_exc (K := K) (S := S) (x := x) (c := c) (.inl (bad_b (K := K) hd S))
  have e2 := fun (S : Store) (x c : D) => einit_exc (K := K) (S := S) (x := x) (c := c) (bad_b (K := K) hd S)
  have m2 : ∀ S : Store, gMul S (.lst [.str "BadBook"]) (.int 2) = some (.lst [.str "BadBook", .str "BadBook"]) := fun S => by
    rw [op_rep_l, if_pos ⟨by decide, by decide, by decide⟩]; rfl
  have g1 : (S ++ [Cell.ins (He.ga K "Listener") [], .lst [.str "BadBook"]])[S.length + 1]? = some (.lst [.str "BadBook"]) := by rw [List.getElem?_append_right (by omega)]; simp
  have g2 : (S ++ [Cell.ins (He.ga K "Listener") [], .lst [.str "BadBook"], .ins (He.ga K "Lesson") []])[S.length + 1]? = some (.lst [.str "BadBook"]) := by rw [List.getElem?_append_right (by omega)]; simp
  have g3 : (S ++ [Cell.ins (He.ga K "Listener") [], .lst [.str "BadBook", .str "BadBook"], .ins (He.ga K "Lesson") []])[S.length + 1]? = some (.lst [.str "BadBook", .str "BadBook"]) := by rw [List.getElem?_append_right (by omega)]; simp
  have il : isList (S ++ [Cell.ins (He.ga K "Listener") [], .lst [.str "BadBook"]]) (.loc (S.length + 1)) = true := by unfold isList; rw [(LstAt.cell g1).lst]; rfl
  have ap : gAppend (S ++ [Cell.ins (He.ga K "Listener") [], .lst [.str "BadBook"], .ins (He.ga K "Lesson") []]) (.loc (S.length + 1)) [.str "BadBook"] = some (.non, S ++ [Cell.ins (He.ga K "Listener") [], .lst [.str "BadBook", .str "BadBook"], .ins (He.ga K "Lesson") []]) := by
    have cl : cellL (S ++ [Cell.ins (He.ga K "Listener") [], .lst [.str "BadBook"], .ins (He.ga K "Lesson") []])[S.length + 1]? = some [.str "BadBook"] := by rw [g2]; rfl
    unfold gAppend
    simp only [cl]
    rw [if_pos (by decide), List.set_append_right _ _ (by omega), show S.length + 1 - S.length = 1 by omega]
    rfl
  have ne := ne_same (S := S ++ [Cell.ins (He.ga K "Listener") [], .lst [.str "BadBook", .str "BadBook"], .ins (He.ga K "Lesson") []]) pl_str (x := .loc (S.length + 1)) (y := .lst [.str "BadBook", .str "BadBook"]) (xs := ["BadBook", "BadBook"]) (LstAt.cell g3).lst rfl (by decide +kernel)
  refine ⟨S ++ [Cell.ins (He.ga K "Listener") [], .lst [.str "BadBook", .str "BadBook"], .ins (He.ga K "Lesson") []], ?_⟩
  simp [lp_law_1, exTold, e1, e2, hB, il, ap, m2, ne]
theorem lp2 (hx : xcsB K xnames "KeysError" = true) {d : D} (hd : d ∈ badU) : ∃ n S', lp_law_2 K [x0, x1, x2, some (bkD fb), x4, some d, x6, x7, x8, x9, x10, x11, x12] S = .ok (.nx, [x0, x1, x2, some (bkD fb), x4, some d, x6, some (.loc n), x8, x9, x10, x11, x12], S') ∧ LAt K S' n (n + 1) fb 1 [] := by
  have hN := wz_at hx (z := "BadNumber") (by decide +kernel)
  have nb := fun S : Store => r_need_book (K := K) (S := S) fb_ok
  have ini := r_linit (K := K) (S := S) fb_ok (u := 1) (by decide) (by decide)
  have la := lat_new (K := K) (S := S) (bk := fb) (u := 1)
  have e1 := fun (S : Store) (x : D) => linit_exc (K := K) (S := S) (x := x) (c := d) (.inr ⟨nb S, bad_u (K := K) hd S⟩)
  have bu := bad_u (K := K) hd
  have e2 : ∀ (S : Store) (x : D), F_Listener_set_unit K [x, d] S = .exc (He.ga K "BadNumber") S := fun S x => by simp [F_Listener_set_unit, sx_Listener_set_unit, bu]
  have nn : ∀ S : Store, gNe S (.str "BadNumber") (.str "BadNumber") = some (.bl false) := fun S => by rw [op_ne_s]; simp
  have i0 : isIns (He.ga K "Listener") (S ++ [.ins (LC K) (lfs fb 1 (S.length + 1)), .lst [], .ins (He.ga K "Listener") []]) "set_unit" (.loc S.length) = true := by
    have := (la.more [Cell.ins (He.ga K "Listener") []]).isi (x := "set_unit") rfl
    simpa using this
  have la2 := la.more [Cell.ins (He.ga K "Listener") []]
  refine ⟨S.length, _, ?_, la2⟩
  generalize bkD fb = db at *
  simp [lp_law_2, exTold, ini, e1, hN, nn, i0, e2]
theorem lp3 (hx : xcsB K xnames "KeysError" = true) {n r : Nat} (la : LAt K S n r fb 1 []) {p : D × D} (hp : p ∈ badH) : ∃ S', lp_law_3 K [x0, x1, x2, x3, x4, x5, x6, some (.loc n), some p.1, some p.2, x10, x11, x12] S = .ok (.nx, [x0, x1, x2, x3, x4, x5, x6, some (.loc n), some p.1, some p.2, x10, x11, x12], S') ∧ LAt K S' n r fb 1 [] := by
  have hB := wz_at hx (z := "BadRuns") (by decide +kernel)
  have nn : ∀ S : Store, gNe S (.str "BadRuns") (.str "BadRuns") = some (.bl false) := fun S => by rw [op_ne_s]; simp
  have bh := bad_h (K := K) hp (n := n) (S := S)
  have i0 : isIns (He.ga K "Listener") S "hear" (.loc n) = true := la.isi rfl
  have i1 : isIns (He.ga K "Listener") S "runs_now" (.loc n) = true := la.isi rfl
  have rn := r_runs_now (K := K) la
  have ne := ne_nilG (S := S ++ [.lst []]) pl_int (x := .loc S.length) (xs := []) lst_end
  simp only [List.map_nil] at rn
  refine ⟨S ++ [.lst []], ?_, la.more _⟩
  simp only [List.isEmpty_nil, Bool.not_true] at ne
  simp [lp_law_3, exTold, i0, bh, hB, nn, i1, rn, ne]
theorem lp4 (hx : xcsB K xnames "KeysError" = true) {d : D} (hd : d ∈ badL) : ∃ S', lp_law_4 K [x0, x1, x2, some (bkD fb), x4, some d, x6, x7, x8, x9, x10, x11, x12] S = .ok (.nx, [x0, x1, x2, some (bkD fb), x4, some d, x6, x7, x8, x9, x10, x11, x12], S') := by
  have hB := wz_at hx (z := "BadSign") (by decide +kernel)
  have nn : ∀ S : Store, gNe S (.str "BadSign") (.str "BadSign") = some (.bl false) := fun S => by rw [op_ne_s]; simp
  have bl := fun S : Store => bad_l (K := K) hd (n := S.length) (S := S ++ [.ins (He.ga K "Lesson") []])
  refine ⟨S ++ [.ins (He.ga K "Lesson") []], ?_⟩
  generalize bkD fb = db at *
  simp [lp_law_4, exTold, bl, hB, nn]
theorem lp5 (hx : xcsB K xnames "KeysError" = true) {n r q : Nat} {ss : List Nat} (la : EAt K S n r q fb ss [] []) {d : D} (hd : d ∈ badC) : lp_law_5 K [x0, x1, x2, x3, x4, some d, x6, x7, x8, x9, some (.loc n), x11, x12] S = .ok (.nx, [x0, x1, x2, x3, x4, some d, x6, x7, x8, x9, some (.loc n), x11, x12], S) := by
  have hB := wz_at hx (z := "BadCode") (by decide +kernel)
  have nn : ∀ S : Store, gNe S (.str "BadCode") (.str "BadCode") = some (.bl false) := fun S => by rw [op_ne_s]; simp
  have bc := bad_c (K := K) hd (n := n) (S := S)
  have i0 : isIns (He.ga K "Lesson") S "answer" (.loc n) = true := la.isi rfl
  have i1 : isIns (He.ga K "Lesson") S "answers" (.loc n) = true := la.isi rfl
  have an := r_answers0 (K := K) la
  have ne : gNe S (.lst []) (.lst []) = some (.bl false) := ne_same (S := S) pl_int (x := .lst []) (y := .lst []) (xs := []) rfl rfl
  simp [lp_law_5, exTold, i0, bc, hB, nn, i1, an, ne]
theorem lp6 (hx : xcsB K xnames "KeysError" = true) {n r q m : Nat} (hm : m < 9) (la : EAt K S n r q fb (someS m) [] []) {d : D} (hd : d ∈ badS m) : lp_law_6 K [x0, x1, x2, x3, x4, some d, x6, x7, x8, x9, some (.loc n), x11, x12] S = .ok (.nx, [x0, x1, x2, x3, x4, some d, x6, x7, x8, x9, some (.loc n), x11, x12], S) := by
  have hB := wz_at hx (z := "BadSign") (by decide +kernel)
  have nn : ∀ S : Store, gNe S (.str "BadSign") (.str "BadSign") = some (.bl false) := fun S => by rw [op_ne_s]; simp
  have bs := bad_s (K := K) hm hd la
  have i0 : isIns (He.ga K "Lesson") S "score" (.loc n) = true := la.isi rfl
  simp [lp_law_6, exTold, i0, bs, hB, nn]
end

theorem some_two (m : Nat) (h : m < 9) : ∃ c d l, someS m = c :: d :: l ∧ l ≠ [] ∧ c < 0x110000 ∧ d < 0x110000 := by
  have : m = 0 ∨ m = 1 ∨ m = 2 ∨ m = 3 ∨ m = 4 ∨ m = 5 ∨ m = 6 ∨ m = 7 ∨ m = 8 := by omega
  rcases this with e | e | e | e | e | e | e | e | e <;> subst e <;> exact ⟨_, _, _, rfl, by decide +kernel, by decide +kernel, by decide +kernel⟩
theorem sl_take {S : Store} (m : Nat) (h : m < 9) : gSl S (.lst (sgnD SG)) none (some (m : Int)) = some (.lst (sgnD (SG.take m))) ∧ atI (sgnD (SG.take m) ++ [.str "="]) 0 = some (tD [if m = 0 then 61 else 97]) := by
  have : m = 0 ∨ m = 1 ∨ m = 2 ∨ m = 3 ∨ m = 4 ∨ m = 5 ∨ m = 6 ∨ m = 7 ∨ m = 8 := by omega
  rcases this with e | e | e | e | e | e | e | e | e <;> subst e <;> exact ⟨rfl, rfl⟩
theorem turn7 (hx : xcsB K xnames "KeysError" = true) {ns : List Int} (hl : ns.length ≤ 63) (hb : ∀ z ∈ ns, Builtin.Int.intBits z ≤ 1048576) {k : Nat} (hk : k < 4) {a2 a3 a4 a5 a6 a7 a8 a9 a10 a11 a12 : Option D} {S : Store} :
    T81 ns k (lp_law_7 K [some (.frz (ns.map .int)), some (natD k), a2, a3, a4, a5, a6, a7, a8, a9, a10, a11, a12] S) := by
  have hz : (200000 : Nat) ≤ sizeLine := by decide
  have rc := fun S : Store => r_law_cell (K := K) (S := S) hl hb (k := k) (by omega)
  have rd := fun S : Store => r_law_drawn (K := K) (S := S) (c := cellZ ns k) (k := (k : Int)) (cellZ_lt hb (by omega : k < 1024)) (by omega) (by omega)
  obtain ⟨d1, d2⟩ := drawZ_in (cellZ ns k) (k : Int)
  generalize drawZ (cellZ ns k) (k : Int) = x at rd d1 d2
  obtain ⟨m, hm, hm2⟩ : ∃ m : Nat, x % 9 = (m : Int) ∧ m < 9 := ⟨(x % 9).toNat, by omega, by omega⟩
  have sg : ∀ S : Store, F_law_signs K [] S = .ok (.str "abcdefghijklmnopqrstuvwxyz0123456789.,?/=", S) := fun S => by simp [F_law_signs, sx_law_signs]
  have it : ∀ S : Store, itemsV S (.str "abcdefghijklmnopqrstuvwxyz0123456789.,?/=") = some ((List.range 41).map (fun j : Nat => D.tup [.int (j : Int), tD [SG.getD j 0]]), none) := fun S => by kernel_rfl
  have lt : ∀ S : Store, gListT S [.str "abcdefghijklmnopqrstuvwxyz0123456789.,?/="] = some (sgnD SG) := fun S => by kernel_rfl
  have lc := lcL_mapOf (f := fun j : Nat => D.tup [.int (j : Int), tD [SG.getD j 0]]) (h := fun j => D.tup [tD [SG.getD j 0], tD (codeL (2 + j))]) (g := gT 2 (gsC (gN 11) (gsC (gN 12) gsN))) (t := txY) (fe := el_law_0 K) (ck := none) (ρ := [some (.frz (ns.map .int)), some (natD k), some (.int x), a3, a4, a5, a6, a7, a8, a9, a10, none, none]) (S := S) rfl (List.range 41) [] (fun j hj => ⟨_, rfl, rfl, by
    have hj := List.mem_range.mp hj
    have rc := r_law_code (K := K) (S := S) (n := 2 + j) (by omega)
    rw [show ((2 + j : Nat) : Int) = 2 + (j : Int) by omega] at rc
    generalize tD (codeL (2 + j)) = dc at *
    generalize tD [SG.getD j 0] = ds at *
    simp [el_law_0, rc]⟩) (by simp; omega)
  rw [List.nil_append] at lc
  have gd := g_fb (S := S)
  have bkfb : D.dct (kvB fb) = bkD fb := rfl
  have ss := fun S : Store => sl_some (S := S) m hm2
  unfold lp_law_7
  refine seq_T (ρ1 := [some (.frz (ns.map .int)), some (natD k), some (.int x), a3, a4, a5, a6, a7, a8, a9, a10, a11, a12]) (S1 := S) (by unfold natD; simp [rc, rd]) ?_
  refine seq_T (ρ1 := [some (.frz (ns.map .int)), some (natD k), some (.int x), some (bkD fb), a4, a5, a6, a7, a8, a9, a10, a11, a12]) (S1 := S) (by
    rw [← bkfb]
    generalize ((List.range 41).map fun j => D.tup [tD [SG.getD j 0], tD (codeL (2 + j))]) = LP at *
    generalize ((List.range 41).map (fun j : Nat => D.tup [.int (j : Int), tD [SG.getD j 0]])) = LI at *
    simp [exLc, ixEV, sg, it, wipeD, lc, gd]) ?_
  refine seq_T (ρ1 := [some (.frz (ns.map .int)), some (natD k), some (.int x), some (bkD fb), some (.lst (sgnD (someS m))), a5, a6, a7, a8, a9, a10, a11, a12]) (S1 := S) (by
    generalize bkD fb = db at *
    generalize sgnD (someS m) = L at *
    generalize sgnD SG = LS at *
    simp [sg, lt, hm, ss]) ?_
  have L1 := forL_all badB (f := id) (g := gN 5) (s := lp_law_1 K) (I := fun ρ S => ∃ b5 b6, ρ = [some (.frz (ns.map .int)), some (natD k), some (.int x), some (bkD fb), some (.lst (sgnD (someS m))), b5, b6, a7, a8, a9, a10, a11, a12]) (ρ := [some (.frz (ns.map .int)), some (natD k), some (.int x), some (bkD fb), some (.lst (sgnD (someS m))), a5, a6, a7, a8, a9, a10, a11, a12]) (S := S) ⟨_, _, rfl⟩ (fun d hd ρ S ⟨b5, b6, e⟩ => by
    subst e
    obtain ⟨S', e⟩ := lp1 (K := K) (S := S) hx hd (x0 := some (.frz (ns.map .int))) (x1 := some (natD k)) (x2 := some (.int x)) (x3 := some (bkD fb)) (x4 := some (.lst (sgnD (someS m)))) (x6 := b6) (x7 := a7) (x8 := a8) (x9 := a9) (x10 := a10) (x11 := a11) (x12 := a12)
    exact ⟨_, rfl, _, S', e, _, _, rfl⟩)
  rw [List.map_id] at L1
  obtain ⟨ρ1, S1, e1, b5, b6, rfl⟩ := L1
  have z5 : (5 : Nat) ≤ sizeLine := by decide
  have z7 : (7 : Nat) ≤ sizeLine := by decide
  have z9 : (9 : Nat) ≤ sizeLine := by decide
  have z6 : (6 : Nat) ≤ sizeLine := by decide
  refine seq_T (ρ1 := [some (.frz (ns.map .int)), some (natD k), some (.int x), some (bkD fb), some (.lst (sgnD (someS m))), b5, b6, a7, a8, a9, a10, a11, a12]) (S1 := S1) (by
    show sxFor _ _ _ _ _ = _
    generalize bkD fb = db at *
    generalize sgnD (someS m) = L at *
    simp [sxFor, ixV, itemsOf, exD0, ev_dct1, ev_dct2, z5]
    exact e1) ?_
  obtain ⟨ρ2, S2, e2, c5, c7, hq, i2⟩ := forL_pre badU (f := id) (g := gN 5) (s := lp_law_2 K) (ck := none) (I := fun pre ρ S => ∃ c5 c7, ρ = [some (.frz (ns.map .int)), some (natD k), some (.int x), some (bkD fb), some (.lst (sgnD (someS m))), c5, b6, c7, a8, a9, a10, a11, a12] ∧ (pre ≠ [] → ∃ n, c7 = some (.loc n) ∧ LAt K S n (n + 1) fb 1 [])) (ρ := [some (.frz (ns.map .int)), some (natD k), some (.int x), some (bkD fb), some (.lst (sgnD (someS m))), b5, b6, a7, a8, a9, a10, a11, a12]) (S := S1) ⟨_, _, rfl, fun h => absurd rfl h⟩ (fun pre d post hp ρ S ⟨c5, c7, e, _⟩ => by
    subst e
    obtain ⟨n, S', e, la⟩ := lp2 (K := K) (S := S) hx (d := d) (by rw [hp]; simp) (x0 := some (.frz (ns.map .int))) (x1 := some (natD k)) (x2 := some (.int x)) (x4 := some (.lst (sgnD (someS m)))) (x6 := b6) (x7 := c7) (x8 := a8) (x9 := a9) (x10 := a10) (x11 := a11) (x12 := a12)
    exact ⟨_, rfl, _, S', .inl e, rfl, _, _, rfl, fun _ => ⟨n, rfl, la⟩⟩)
  subst hq
  obtain ⟨n, rfl, la⟩ := i2 (by decide)
  rw [List.map_id] at e2
  refine seq_T (ρ1 := [some (.frz (ns.map .int)), some (natD k), some (.int x), some (bkD fb), some (.lst (sgnD (someS m))), c5, b6, some (.loc n), a8, a9, a10, a11, a12]) (S1 := S2) (by
    show sxFor _ _ _ _ _ = _
    generalize bkD fb = db at *
    generalize sgnD (someS m) = L at *
    simp [sxFor, ixV, itemsOf, z5]
    exact e2) ?_
  obtain ⟨ρ3, S3, e3, d8, d9, hq, la3⟩ := forL_pre badH (f := fun p => D.tup [p.1, p.2]) (g := gT 2 (gsC (gN 8) (gsC (gN 9) gsN))) (s := lp_law_3 K) (ck := none) (I := fun pre ρ S => ∃ d8 d9, ρ = [some (.frz (ns.map .int)), some (natD k), some (.int x), some (bkD fb), some (.lst (sgnD (someS m))), c5, b6, some (.loc n), d8, d9, a10, a11, a12] ∧ LAt K S n (n + 1) fb 1 []) (ρ := [some (.frz (ns.map .int)), some (natD k), some (.int x), some (bkD fb), some (.lst (sgnD (someS m))), c5, b6, some (.loc n), a8, a9, a10, a11, a12]) (S := S2) ⟨_, _, rfl, la⟩ (fun pre p post hp ρ S ⟨d8, d9, e, la⟩ => by
    subst e
    obtain ⟨S', e, la'⟩ := lp3 (K := K) (S := S) hx la (p := p) (by rw [hp]; simp) (x0 := some (.frz (ns.map .int))) (x1 := some (natD k)) (x2 := some (.int x)) (x3 := some (bkD fb)) (x4 := some (.lst (sgnD (someS m)))) (x5 := c5) (x6 := b6) (x10 := a10) (x11 := a11) (x12 := a12)
    exact ⟨_, rfl, _, S', .inl e, rfl, _, _, rfl, la'⟩)
  subst hq
  refine seq_T (ρ1 := [some (.frz (ns.map .int)), some (natD k), some (.int x), some (bkD fb), some (.lst (sgnD (someS m))), c5, b6, some (.loc n), d8, d9, a10, a11, a12]) (S1 := S3) (by
    show sxFor _ _ _ _ _ = _
    generalize bkD fb = db at *
    generalize sgnD (someS m) = L at *
    simp [sxFor, ixV, itemsOf, z7]
    exact e3) ?_
  have L4 := forL_all badL (f := id) (g := gN 5) (s := lp_law_4 K) (I := fun ρ S => ∃ f5, ρ = [some (.frz (ns.map .int)), some (natD k), some (.int x), some (bkD fb), some (.lst (sgnD (someS m))), f5, b6, some (.loc n), d8, d9, a10, a11, a12]) (ρ := [some (.frz (ns.map .int)), some (natD k), some (.int x), some (bkD fb), some (.lst (sgnD (someS m))), c5, b6, some (.loc n), d8, d9, a10, a11, a12]) (S := S3) ⟨_, rfl⟩ (fun d hd ρ S ⟨f5, e⟩ => by
    subst e
    obtain ⟨S', e⟩ := lp4 (K := K) (S := S) hx hd (x0 := some (.frz (ns.map .int))) (x1 := some (natD k)) (x2 := some (.int x)) (x4 := some (.lst (sgnD (someS m)))) (x6 := b6) (x7 := some (.loc n)) (x8 := d8) (x9 := d9) (x10 := a10) (x11 := a11) (x12 := a12)
    exact ⟨_, rfl, _, S', e, _, rfl⟩)
  rw [List.map_id] at L4
  obtain ⟨ρ4, S4, e4, f5, rfl⟩ := L4
  have l21 : ∀ S : Store, gSl S (.lst (sgnD SG)) none (some 21) = some (.lst (sgnD (SG.take 21))) := fun S => rfl
  refine seq_T (ρ1 := [some (.frz (ns.map .int)), some (natD k), some (.int x), some (bkD fb), some (.lst (sgnD (someS m))), f5, b6, some (.loc n), d8, d9, a10, a11, a12]) (S1 := S4) (by
    show sxFor _ _ _ _ _ = _
    unfold badL at e4
    generalize sgnD (SG.take 21) = L21 at *
    generalize sgnD SG = LS at *
    generalize bkD fb = db at *
    generalize sgnD (someS m) = L at *
    simp [sxFor, ixV, itemsOf, z9, sg, lt, l21]
    exact e4) ?_
  have ini := r_einit (K := K) (S := S4) fb_ok (some_ok m hm2)
  have ea := eat_new (K := K) (S := S4) (bk := fb) (ss := someS m)
  refine seq_T (ρ1 := [some (.frz (ns.map .int)), some (natD k), some (.int x), some (bkD fb), some (.lst (sgnD (someS m))), f5, b6, some (.loc n), d8, d9, some (.loc S4.length), a11, a12]) (S1 := S4 ++ [.ins (EC K) (efs fb (someS m) (S4.length + 1) (S4.length + 2)), .lst [], .lst []]) (by
    generalize bkD fb = db at *
    generalize sgnD (someS m) = L at *
    simp [ini]) ?_
  generalize S4 ++ [Cell.ins (EC K) (efs fb (someS m) (S4.length + 1) (S4.length + 2)), .lst [], .lst []] = S5 at *
  obtain ⟨ρ6, S6, e6, g5, hq, hS⟩ := forL_pre badC (f := id) (g := gN 5) (s := lp_law_5 K) (ck := none) (I := fun pre ρ S => ∃ g5, ρ = [some (.frz (ns.map .int)), some (natD k), some (.int x), some (bkD fb), some (.lst (sgnD (someS m))), g5, b6, some (.loc n), d8, d9, some (.loc S4.length), a11, a12] ∧ S = S5) (ρ := [some (.frz (ns.map .int)), some (natD k), some (.int x), some (bkD fb), some (.lst (sgnD (someS m))), f5, b6, some (.loc n), d8, d9, some (.loc S4.length), a11, a12]) (S := S5) ⟨_, rfl, rfl⟩ (fun pre d post hp ρ S ⟨g5, e, es⟩ => by
    subst e es
    have e := lp5 (K := K) hx ea (d := d) (by rw [hp]; simp) (x0 := some (.frz (ns.map .int))) (x1 := some (natD k)) (x2 := some (.int x)) (x3 := some (bkD fb)) (x4 := some (.lst (sgnD (someS m)))) (x6 := b6) (x7 := some (.loc n)) (x8 := d8) (x9 := d9) (x11 := a11) (x12 := a12)
    exact ⟨_, rfl, _, _, .inl e, rfl, _, rfl, rfl⟩)
  subst hq hS
  rw [List.map_id] at e6
  refine seq_T (ρ1 := [some (.frz (ns.map .int)), some (natD k), some (.int x), some (bkD fb), some (.lst (sgnD (someS m))), g5, b6, some (.loc n), d8, d9, some (.loc S4.length), a11, a12]) (S1 := S6) (by
    show sxFor _ _ _ _ _ = _
    generalize bkD fb = db at *
    generalize sgnD (someS m) = L at *
    simp [sxFor, ixV, itemsOf, z6]
    exact e6) ?_
  obtain ⟨ρ7, S7, e7, h5, hq, hS⟩ := forL_pre (badS m) (f := id) (g := gN 5) (s := lp_law_6 K) (ck := none) (I := fun pre ρ S => ∃ h5, ρ = [some (.frz (ns.map .int)), some (natD k), some (.int x), some (bkD fb), some (.lst (sgnD (someS m))), h5, b6, some (.loc n), d8, d9, some (.loc S4.length), a11, a12] ∧ S = S6) (ρ := [some (.frz (ns.map .int)), some (natD k), some (.int x), some (bkD fb), some (.lst (sgnD (someS m))), g5, b6, some (.loc n), d8, d9, some (.loc S4.length), a11, a12]) (S := S6) ⟨_, rfl, rfl⟩ (fun pre d post hp ρ S ⟨h5, e, es⟩ => by
    subst e es
    have e := lp6 (K := K) hx hm2 ea (d := d) (by rw [hp]; simp) (x0 := some (.frz (ns.map .int))) (x1 := some (natD k)) (x2 := some (.int x)) (x3 := some (bkD fb)) (x4 := some (.lst (sgnD (someS m)))) (x6 := b6) (x7 := some (.loc n)) (x8 := d8) (x9 := d9) (x11 := a11) (x12 := a12)
    exact ⟨_, rfl, _, _, .inl e, rfl, _, rfl, rfl⟩)
  subst hq hS
  rw [List.map_id] at e7
  obtain ⟨t1, t2⟩ := sl_take (S := S7) m hm2
  have ad := add_at (S := S7) (x := .lst (sgnD (SG.take m))) (y := .lst [.str "="]) .data .data (by simp [sgnD]; omega)
  refine seq_T (ρ1 := [some (.frz (ns.map .int)), some (natD k), some (.int x), some (bkD fb), some (.lst (sgnD (someS m))), h5, b6, some (.loc n), d8, d9, some (.loc S4.length), a11, a12]) (S1 := S7) (by
    show sxFor _ _ _ _ _ = _
    unfold badS at e7
    generalize tD [if m = 0 then 61 else 97] = dl at *
    generalize sgnD (SG.take m) ++ [D.str "="] = LT at *
    generalize sgnD (SG.take m) = LM at *
    generalize sgnD SG = LS at *
    generalize bkD fb = db at *
    generalize sgnD (someS m) = L at *
    simp [sxFor, ixV, itemsOf, z6, sg, lt, hm, t1, ad, t2]
    exact e7) ?_
  obtain ⟨c, d, l, hs, hl2, c1, c2⟩ := some_two m hm2
  have hN := wz_at hx (z := "Nothing") (by decide +kernel)
  have nn : ∀ S : Store, gNe S (.str "Nothing") (.str "Nothing") = some (.bl false) := fun S => by rw [op_ne_s]; simp
  have rr := r_redo0 (K := K) ea
  have kn := r_known0 (K := K) ea hs hl2
  have i0 : isIns (He.ga K "Lesson") S7 "redo" (.loc S4.length) = true := ea.isi rfl
  have i1 : isIns (He.ga K "Lesson") S7 "known" (.loc S4.length) = true := ea.isi rfl
  have s2 : gSl S7 (.lst (sgnD (someS m))) none (some 2) = some (.lst [tD [c], tD [d]]) := by
    show some (D.lst (cutD (sgnD (someS m)) none (some 2))) = _
    rw [hs]
    have := cut_take (ds := sgnD (c :: d :: l)) (i := 2) (by simp [sgnD])
    rw [show ((2 : Nat) : Int) = 2 from rfl] at this
    rw [this]
    rfl
  have so : ∀ a ∈ [[c], [d]], PyData.strOk (txt a) = true := fun a ha => by
    show (txt a).cps.all (· < 0x110000) = true
    unfold txt
    rw [← Array.all_toList, List.all_eq_true]
    intro y hy
    simp only [List.mem_cons, List.not_mem_nil, or_false] at ha
    rcases ha with rfl | rfl <;> simp at hy <;> subst hy <;> simpa using by assumption
  have ne := ne_same (S := S7) pl_tD (x := .lst [tD [c], tD [d]]) (y := .lst [tD [c], tD [d]]) (xs := [[c], [d]]) rfl rfl so
  obtain ⟨S8, fr⟩ := r_full (K := K) (S := S7) hx
  unfold T81
  generalize tD [c] = dc at *
  generalize tD [d] = dd at *
  generalize bkD fb = db at *
  generalize sgnD (someS m) = L at *
  simp [exTold, i0, rr, hN, nn, i1, kn, s2, ne, fr]
theorem law_good (K : PySem.W.Frag) (hx : ex K = true) : ∀ ns : List Int, ns.length ≤ 63 → (∀ z ∈ ns, Builtin.Int.intBits z ≤ 1048576) → ∃ S, F_law K [.frz (ns.map .int)] [] = .ok (.bl true, S) := by
  intro ns hl hb
  have hx2 : xcsB K xnames "KeysError" = true := (He.ba hx).2
  obtain ⟨n, hn, hn2⟩ : ∃ n : Nat, (if (if (ns.length : Int) < 4 then (ns.length : Int) else 4) > 1 then (if (ns.length : Int) < 4 then (ns.length : Int) else 4) else 1) = (n : Int) ∧ n ≤ 4 := by
    refine ⟨(if (if (ns.length : Int) < 4 then (ns.length : Int) else 4) > 1 then (if (ns.length : Int) < 4 then (ns.length : Int) else 4) else 1).toNat, ?_, ?_⟩ <;> (repeat' split) <;> omega
  obtain ⟨ρ', S', e, i⟩ := forL_all (List.range n) (f := natD) (g := gN 1) (s := lp_law_7 K) (I := fun ρ S => ∃ b1 b2 b3 b4 b5 b6 b7 b8 b9 b10 b11 b12, ρ = [some (.frz (ns.map .int)), b1, b2, b3, b4, b5, b6, b7, b8, b9, b10, b11, b12])
    (ρ := [some (.frz (ns.map .int)), none, none, none, none, none, none, none, none, none, none, none, none]) (S := []) ⟨_, _, _, _, _, _, _, _, _, _, _, _, rfl⟩ (fun k hk ρ S ⟨b1, b2, b3, b4, b5, b6, b7, b8, b9, b10, b11, b12, e⟩ => by
      subst e
      have hk := List.mem_range.mp hk
      obtain ⟨c2, c3, c4, c5, c6, c7, c8, c9, c10, c11, c12, S1, e1⟩ := turn7 (K := K) hx2 hl hb (k := k) (by omega) (a2 := b2) (a3 := b3) (a4 := b4) (a5 := b5) (a6 := b6) (a7 := b7) (a8 := b8) (a9 := b9) (a10 := b10) (a11 := b11) (a12 := b12) (S := S)
      exact ⟨_, rfl, _, S1, e1, _, _, _, _, _, _, _, _, _, _, _, _, rfl⟩)
  refine ⟨S', ?_⟩
  have rg := range_nat n
  have b : (n : Int) < 4611686018427387904 := by omega
  simp [F_law, sx_law, sxFor, ixR1, hn, b, rg, e]

end

end K81
open PySem PySem.W PySem.Calls PyProof.Rows
theorem PySem.Challenge.cw_twokeys_k81_lessons_refused_holds : PySem.Challenge.rw_twokeys_k81_lessons_refused.Holds := by
  w_on; o_law
  refine HandSHeadRun.head_any (r := OpenLaw.row PySem.Challenge.rw_twokeys_k81_lessons_refused) (q := view (OpenLaw.row PySem.Challenge.rw_twokeys_k81_lessons_refused).prog [45]) (H := K81.hk) (ob := K81.ob) (M := 4000) (loose := K81.loose) (d := HandSHeadRun.topDef (OpenLaw.row PySem.Challenge.rw_twokeys_k81_lessons_refused).prog 45) (kwd := []) K81.ob_eq
    (by kernel_rfl) (fun s => by kernel_rfl) K81.run (by kernel_rfl) (by kernel_rfl) (by kernel_rfl) (by rfl) (by first | assumption | decide +kernel) (by decide +kernel) ⟨rfl, rfl, rfl, rfl, rfl, by decide +kernel⟩ ?hw ?hc
  case hw => w_witness2
  case hc =>
    refine LamX.walk_ofTsE (l := PySem.Challenge.rw_twokeys_k81_lessons_refused) (n := 63) (k := 8) (x := "_law_script") (CX := fun w => L2N.CX PySem.Challenge.rw_twokeys_k81_lessons_refused.prog w) rfl (by decide) (by kernel_rfl) ⟨rfl, by decide, by decide⟩ ?F ?c
    case c =>
      intro w H s e s' z
      obtain ⟨_, _, _, _, _, _, _, _, _, _, _, _, z⟩ := z
      exact z
    case F =>
      intro w mg fa h Y G hmg0
      obtain ⟨K, KX, c⟩ := Y
      have hmg : mg ("law" : PySem.Str) = some (.ref fa) := by
        have e : (HandSHeadRun.topDef (OpenLaw.row PySem.Challenge.rw_twokeys_k81_lessons_refused).prog 45).name = ("law" : PySem.Str) := by kernel_rfl
        rw [← e]
        exact hmg0
      have e0 := hmg.symm.trans (He.glo_ok KX G (c.t.d.fact 81 (f := .glo "law") rfl))
      cases e0
      obtain ⟨fd, F⟩ := c.t.d.def_ 30 (d := K81.d_law) rfl
      have b := L2.FunD.bindsA (ps := ["_law_script"]) F fun _ _ _ _ _ _ us hl => match us, hl with | [_], _ => rfl
      obtain ⟨oc, od, _, _, _, _, _, _, _, osl, _, lk, _⟩ := F.ex
      exact ⟨K, KX, DL.law_at KX c (fun s v => b s [v] rfl) (fun base h1 h2 h3 => (K81.g_law ⟨h1, h2, c.t.d, c.more, h3⟩).at lk) (K81.law_good K c.more)⟩


