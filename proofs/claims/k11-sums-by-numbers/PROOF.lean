import PyProof.Rows.All
import Wide.All
import OpenK.AllK
import Wide.FinOn
import HandS.ForMost
import HandS.Property
import HandS.Walk
import HandS.DictComp
import HandS.IsInst
import HandS.Conv
import HandS.Style
import HandS.ListItems
import HandS.Finally
import HandS.FStr
import HandS.Flow
import HandS.Codes
import HandS.SlotsOwn
import HandS.Defaults
import HandS.DictTup
import HandS.Keys
import HandS.HeadHook2
import HandS.Head2
import HandS.HeadEnd
import PySem.Challenge.RW_quietshares_k11_sums_by_numbers
set_option Elab.async false
set_option linter.all false
set_option maxRecDepth 100000
set_option maxHeartbeats 4000000
namespace QD
open PySem PySem.Spec L2
abbrev St := L2.St
/-! values as pure data; what stands for them in a heap -/
inductive D where
  | non | bl (b : Bool) | int (i : Int) | str (x : Str) | ty (n : String)
  | lst (xs : List D) | tup (xs : List D) | dic (kvs : List (Key × D)) | ins (C : Addr) (fs : List (Str × D))

mutual
inductive Rep (K : PySem.W.Frag) (G : Hp) : V → D → Prop
  | non : Rep K G .non .non
  | bl (b) : Rep K G (.bl b) (.bl b)
  | int (i) : Rep K G (.int i) (.int i)
  | str (x) : Rep K G (.str x) (.str x)
  | ty (n) : Rep K G (.ty n) (.ty n)
  | lst {a vs ds} : SqL K G a vs → Reps K G vs ds → Rep K G (.ref a) (.lst ds)
  | tup {a vs ds} : SqT K G a vs → Reps K G vs ds → Rep K G (.ref a) (.tup ds)
  | dic {a kvs kds} : Rd G a (.dK kvs) → RepK K G kvs kds → Rep K G (.ref a) (.dic kds)
  | ins {a C dx fs gs} : G a = some (.ins C dx fs) → RepF K G fs gs → Rep K G (.ref a) (.ins C gs)
inductive Reps (K : PySem.W.Frag) (G : Hp) : List V → List D → Prop
  | nil : Reps K G [] []
  | cons {v d vs ds} : Rep K G v d → Reps K G vs ds → Reps K G (v :: vs) (d :: ds)
inductive RepK (K : PySem.W.Frag) (G : Hp) : List (Key × V) → List (Key × D) → Prop
  | nil : RepK K G [] []
  | cons {k v d vs ds} : Rep K G v d → RepK K G vs ds → RepK K G ((k, v) :: vs) ((k, d) :: ds)
inductive RepF (K : PySem.W.Frag) (G : Hp) : List (Str × V) → List (Str × D) → Prop
  | nil : RepF K G [] []
  | cons {k v d vs ds} : Rep K G v d → RepF K G vs ds → RepF K G ((k, v) :: vs) ((k, d) :: ds)
end

structure Tr (K : PySem.W.Frag) (G G' : Hp) : Prop where
  l : ∀ a xs, SqL K G a xs → SqL K G' a xs
  t : ∀ a xs, SqT K G a xs → SqT K G' a xs
  d : ∀ a kvs, Rd G a (.dK kvs) → Rd G' a (.dK kvs)
  i : ∀ a C dx fs, G a = some (.ins C dx fs) → G' a = some (.ins C dx fs)

section
variable {K : PySem.W.Frag} {G G' : Hp}
mutual
theorem Rep.tr (T : Tr K G G') : ∀ {v d}, Rep K G v d → Rep K G' v d
  | _, _, .non => .non
  | _, _, .bl b => .bl b
  | _, _, .int b => .int b
  | _, _, .str b => .str b
  | _, _, .ty b => .ty b
  | _, _, .lst h r => .lst (T.l _ _ h) (Reps.tr T r)
  | _, _, .tup h r => .tup (T.t _ _ h) (Reps.tr T r)
  | _, _, .dic h r => .dic (T.d _ _ h) (RepK.tr T r)
  | _, _, .ins h r => .ins (T.i _ _ _ _ h) (RepF.tr T r)
theorem Reps.tr (T : Tr K G G') : ∀ {v d}, Reps K G v d → Reps K G' v d
  | _, _, .nil => .nil
  | _, _, .cons h r => .cons (Rep.tr T h) (Reps.tr T r)
theorem RepK.tr (T : Tr K G G') : ∀ {v d}, RepK K G v d → RepK K G' v d
  | _, _, .nil => .nil
  | _, _, .cons h r => .cons (Rep.tr T h) (RepK.tr T r)
theorem RepF.tr (T : Tr K G G') : ∀ {v d}, RepF K G v d → RepF K G' v d
  | _, _, .nil => .nil
  | _, _, .cons h r => .cons (Rep.tr T h) (RepF.tr T r)
end
theorem Tr.refl : Tr K G G := ⟨fun _ _ h => h, fun _ _ h => h, fun _ _ h => h, fun _ _ _ _ h => h⟩
theorem Tr.trans {G'' : Hp} (a : Tr K G G') (b : Tr K G' G'') : Tr K G G'' :=
  ⟨fun x y h => b.l x y (a.l x y h), fun x y h => b.t x y (a.t x y h), fun x y h => b.d x y (a.d x y h), fun x y z w h => b.i x y z w (a.i x y z w h)⟩
theorem sqT_same {a : Addr} {xs : List V} (e : Same G G') (h : SqT K G a xs) : SqT K G' a xs := by
  rcases h with (h | ⟨o, h⟩) | h
  · exact .inl (.inl (e _ _ h))
  · exact .inl (.inr ⟨o, e _ _ h⟩)
  · exact .inr h
theorem rd_same {a : Addr} {u : HO} (e : Same G G') (h : Rd G a u) : Rd G' a u := by
  rcases h with h | ⟨o, h⟩
  · exact .inl (e _ _ h)
  · exact .inr ⟨o, e _ _ h⟩
theorem Tr.same (e : Same G G') : Tr K G G' := ⟨fun _ _ h => e.seq h, fun _ _ h => sqT_same e h, fun _ _ h => rd_same e h, fun _ _ _ _ h => e _ _ h⟩
end

/-! locks: dicts that are walked -/
abbrev Lk := Addr → Option Obj
def lk0 : Lk := fun _ => none
def lkd (lk : Lk) (G : Hp) : Hp := fun a => match lk a with | some ob => (G a).map (HO.frz ob) | none => G a
theorem lkd0 (G : Hp) : lkd lk0 G = G := by funext a; rfl
/-- only dicts are locked -/
def LkOk (lk : Lk) (G : Hp) : Prop := ∀ a ob o, lk a = some ob → G a = some o → ∃ kvs, o = .dK kvs
section
variable {K : PySem.W.Frag} {G : Hp} {lk : Lk}
theorem lkd_some {a : Addr} {o : HO} (h : G a = some o) : lkd lk G a = some o ∨ ∃ ob, lk a = some ob ∧ lkd lk G a = some (.frz ob o) := by
  unfold lkd
  cases e : lk a with
  | none => exact .inl h
  | some ob => exact .inr ⟨ob, rfl, by simp [h]⟩
theorem lkd_plain {a : Addr} {o : HO} (ok : LkOk lk G) (h : G a = some o) (n : ∀ kvs, o ≠ .dK kvs) : lkd lk G a = some o := by
  rcases lkd_some (lk := lk) h with q | ⟨ob, q, _⟩
  · exact q
  · obtain ⟨kvs, e⟩ := ok a ob o q h
    exact absurd e (n kvs)
theorem lkd_back {a : Addr} {o : HO} (h : lkd lk G a = some o) : G a = some o ∨ ∃ ob u, lk a = some ob ∧ G a = some u ∧ o = .frz ob u := by
  unfold lkd at h
  cases e : lk a with
  | none => rw [e] at h; exact .inl h
  | some ob =>
    rw [e] at h
    cases q : G a with
    | none => rw [q] at h; simp at h
    | some u => rw [q] at h; simp at h; exact .inr ⟨ob, u, rfl, rfl, h.symm⟩
theorem Tr.lock (ok : LkOk lk G) : Tr K G (lkd lk G) where
  l := fun a xs h => by
    rcases h with (h | ⟨o, h⟩) | h
    · exact .inl (.inl (lkd_plain ok h (fun _ z => nomatch z)))
    · exact .inl (.inr ⟨o, lkd_plain ok h (fun _ z => nomatch z)⟩)
    · exact .inr h
  t := fun a xs h => by
    rcases h with (h | ⟨o, h⟩) | h
    · exact .inl (.inl (lkd_plain ok h (fun _ z => nomatch z)))
    · exact .inl (.inr ⟨o, lkd_plain ok h (fun _ z => nomatch z)⟩)
    · exact .inr h
  d := fun a kvs h => by
    rcases h with h | ⟨o, h⟩
    · rcases lkd_some (lk := lk) h with q | ⟨ob, _, q⟩
      · exact .inl q
      · exact .inr ⟨ob, q⟩
    · exact .inr ⟨o, lkd_plain ok h (fun _ z => nomatch z)⟩
  i := fun a C dx fs h => lkd_plain ok h (fun _ z => nomatch z)
theorem Tr.unlock (ok : LkOk lk G) : Tr K (lkd lk G) G where
  l := fun a xs h => by
    rcases h with (h | ⟨o, h⟩) | h
    · rcases lkd_back h with q | ⟨ob, u, _, _, e⟩
      · exact .inl (.inl q)
      · cases e
    · rcases lkd_back h with q | ⟨ob, u, q1, q2, e⟩
      · exact .inl (.inr ⟨o, q⟩)
      · injection e with _ e2
        obtain ⟨kvs, e3⟩ := ok a ob u q1 q2
        rw [← e2] at e3; cases e3
    · exact .inr h
  t := fun a xs h => by
    rcases h with (h | ⟨o, h⟩) | h
    · rcases lkd_back h with q | ⟨ob, u, _, _, e⟩
      · exact .inl (.inl q)
      · cases e
    · rcases lkd_back h with q | ⟨ob, u, q1, q2, e⟩
      · exact .inl (.inr ⟨o, q⟩)
      · injection e with _ e2
        obtain ⟨kvs, e3⟩ := ok a ob u q1 q2
        rw [← e2] at e3; cases e3
    · exact .inr h
  d := fun a kvs h => by
    rcases h with h | ⟨o, h⟩
    · rcases lkd_back h with q | ⟨ob, u, _, _, e⟩
      · exact .inl q
      · cases e
    · rcases lkd_back h with q | ⟨ob, u, q1, q2, e⟩
      · exact .inr ⟨o, q⟩
      · injection e with _ e2
        rw [← e2] at q2
        exact .inl q2
  i := fun a C dx fs h => by
    rcases lkd_back h with q | ⟨ob, u, _, _, e⟩
    · exact q
    · cases e
end

/-! what a slot holds: shared data (g), borrowed (b: of the caller, in B), a container of one's own (o), an own one of the caller's (p) -/
inductive C where
  | g (d : D) | b (d : D) | o (d : D) | p (d : D)
abbrev Env' := List (Option C)
def Own (K : PySem.W.Frag) (G H : Hp) (a : Addr) : D → Prop
  | .lst ds => ∃ vs, H a = some (.lst vs) ∧ Reps K G vs ds
  | .dic kds => ∃ kvs, H a = some (.dK kvs) ∧ RepK K G kvs kds
  | .ins C gs => ∃ dx fs, H a = some (.ins C dx fs) ∧ RepF K G fs gs
  | _ => False
def CR (K : PySem.W.Frag) (B G H : Hp) (v : V) : C → Prop
  | .g d => Rep K G v d
  | .b d => Rep K B v d
  | .o d => ∃ a, v = .ref a ∧ Own K G H a d
  | .p d => ∃ a, v = .ref a ∧ Own K G H a d
def C.own : C → Option D
  | .o d => some d
  | .p d => some d
  | _ => none
/-- the frame: heaps at the entry (all, shared), what is kept, the caller's own containers by slots -/
structure FB where
  H0 : Hp
  G0 : Hp
  B : Hp
  pa : List (Nat × Addr)
  Kp : Hp := fun _ => none
/-- an address that the frame does not keep -/
def FB.nk (F : FB) (a : Addr) : Prop := F.B a = none ∧ F.Kp a = none

structure Mem (K : PySem.W.Frag) (F : FB) (lk : Lk) (G : Hp) (L : Env') (σ : St) (H : Hp) : Prop where
  g0 : Same F.G0 G
  gH : Same (lkd lk G) H
  bH : Same (lkd lk F.B) H
  kH : Same F.Kp H
  dom : ∀ a, H a = none → F.H0 a = none
  new : ∀ a, F.G0 a = none → G a ≠ none → F.H0 a = none
  lkD : ∀ a ob, lk a = some ob → ∃ kvs, H a = some (.frz ob (.dK kvs)) ∧ (∀ o, G a = some o → o = .dK kvs) ∧ (∀ o, F.B a = some o → o = .dK kvs)
  sl : ∀ (i : Nat) c, L[i]? = some (some c) → ∃ v, σ[i]? = some (some v) ∧ CR K F.B G H v c
  own : ∀ (i : Nat) c d a, L[i]? = some (some c) → c.own = some d → σ[i]? = some (some (.ref a)) → G a = none ∧ F.nk a ∧ lk a = none
  ownO : ∀ (i : Nat) d a, L[i]? = some (some (.o d)) → σ[i]? = some (some (.ref a)) → F.H0 a = none
  inj : ∀ (i j : Nat) c c' d d' a, L[i]? = some (some c) → c.own = some d → L[j]? = some (some c') → c'.own = some d' → σ[i]? = some (some (.ref a)) → σ[j]? = some (some (.ref a)) → i = j
  par : ∀ p ∈ F.pa, σ[p.1]? = some (some (.ref p.2)) ∧ ∃ d, L[p.1]? = some (some (.p d))
  len : L.length ≤ σ.length
  kn : ∀ a o, F.Kp a = some o → G a = none ∧ F.B a = none

section
variable {K : PySem.W.Frag} {F : FB} {lk : Lk} {G : Hp} {L : Env'} {σ : St} {H : Hp}
theorem Mem.okG (M : Mem K F lk G L σ H) : LkOk lk G := fun a ob o h e => by
  obtain ⟨kvs, _, q, _⟩ := M.lkD a ob h
  exact ⟨kvs, q o e⟩
theorem Mem.okB (M : Mem K F lk G L σ H) : LkOk lk F.B := fun a ob o h e => by
  obtain ⟨kvs, _, _, q⟩ := M.lkD a ob h
  exact ⟨kvs, q o e⟩
theorem Mem.trG (M : Mem K F lk G L σ H) : Tr K G H := (Tr.lock M.okG).trans (Tr.same M.gH)
theorem Mem.trB (M : Mem K F lk G L σ H) : Tr K F.B H := (Tr.lock M.okB).trans (Tr.same M.bH)
theorem Mem.gnone (M : Mem K F lk G L σ H) {a : Addr} (h : H a = none) : G a = none := by
  cases e : G a with
  | none => rfl
  | some o =>
    rcases lkd_some (lk := lk) e with q | ⟨ob, _, q⟩
    · rw [M.gH _ _ q] at h; cases h
    · rw [M.gH _ _ q] at h; cases h
theorem Mem.bnone (M : Mem K F lk G L σ H) {a : Addr} (h : H a = none) : F.nk a := by
  refine ⟨?_, M.kH.free h⟩
  cases e : F.B a with
  | none => rfl
  | some o =>
    rcases lkd_some (lk := lk) e with q | ⟨ob, _, q⟩
    · rw [M.bH _ _ q] at h; cases h
    · rw [M.bH _ _ q] at h; cases h
theorem Mem.lknone (M : Mem K F lk G L σ H) {a : Addr} (h : H a = none) : lk a = none := by
  cases e : lk a with
  | none => rfl
  | some ob =>
    obtain ⟨kvs, q, _⟩ := M.lkD a ob e
    rw [h] at q; cases q
end
end QD

set_option Elab.async false
set_option linter.all false
set_option maxRecDepth 100000
set_option maxHeartbeats 4000000
namespace QD
open PySem PySem.Spec L2
/-! what an expression gives: shared data, borrowed data, an own container (a slot's), a new container -/
inductive A where
  | g (d : D) | b (d : D) | sl (i : Nat) | f (d : D)
def D.flat : D → Bool
  | .non => true | .bl _ => true | .int _ => true | .str _ => true | .ty _ => true
  | _ => false
def D.shallow : D → Bool
  | .lst xs => xs.all D.flat | .tup xs => xs.all D.flat | .dic kvs => kvs.all fun p => p.2.flat | .ins _ fs => fs.all fun p => p.2.flat
  | _ => true
def ownAt (L : Env') (i : Nat) : Option D := match L[i]? with
  | some (some c) => c.own
  | _ => none
def A.get (L : Env') : A → Option D
  | .g d => some d | .b d => some d | .f d => some d
  | .sl i => ownAt L i
def A.vg (L : Env') : A → Option D
  | .g d => some d | .b d => if d.shallow then some d else none | .f d => some d
  | .sl i => ownAt L i
def A.el : A → D → A
  | .b _, d => if d.flat then .g d else .b d
  | _, d => .g d
def HR (K : PySem.W.Frag) (F : FB) (lk : Lk) (G : Hp) (L : Env') (σ : St) (H : Hp) (v : V) : A → Prop
  | .g d => Rep K G v d
  | .b d => Rep K F.B v d
  | .sl i => σ[i]? = some (some v)
  | .f d => ∃ p, v = .ref p ∧ Own K G H p d ∧ G p = none ∧ F.nk p ∧ lk p = none ∧ F.H0 p = none ∧ ∀ (i : Nat) c d', L[i]? = some (some c) → c.own = some d' → σ[i]? ≠ some (some (.ref p))
/-- a view: the thing itself in H, its items in E -/
def Vw (K : PySem.W.Frag) (E H : Hp) (v : V) : D → Prop
  | .lst ds => ∃ a vs, v = .ref a ∧ SqL K H a vs ∧ Reps K E vs ds
  | .tup ds => ∃ a vs, v = .ref a ∧ SqT K H a vs ∧ Reps K E vs ds
  | .dic kds => ∃ a kvs, v = .ref a ∧ Rd H a (.dK kvs) ∧ RepK K E kvs kds
  | .ins C gs => ∃ a dx fs, v = .ref a ∧ H a = some (.ins C dx fs) ∧ RepF K E fs gs
  | d => Rep K E v d

section
variable {K : PySem.W.Frag} {F : FB} {lk : Lk} {G E : Hp} {L : Env'} {σ : St} {H : Hp} {v : V} {d : D}
theorem Rep.vw (r : Rep K E v d) (T : Tr K E H) : Vw K E H v d := by
  cases r with
  | lst h r => exact ⟨_, _, rfl, T.l _ _ h, r⟩
  | tup h r => exact ⟨_, _, rfl, T.t _ _ h, r⟩
  | dic h r => exact ⟨_, _, rfl, T.d _ _ h, r⟩
  | ins h r => exact ⟨_, _, _, rfl, T.i _ _ _ _ h, r⟩
  | non => exact .non
  | bl b => exact .bl b
  | int b => exact .int b
  | str b => exact .str b
  | ty b => exact .ty b
theorem Vw.rep (r : Vw K E H v d) (T : Tr K E H) : Rep K H v d := by
  cases d with
  | lst ds => obtain ⟨a, vs, rfl, h, r⟩ := r; exact .lst h (r.tr T)
  | tup ds => obtain ⟨a, vs, rfl, h, r⟩ := r; exact .tup h (r.tr T)
  | dic ds => obtain ⟨a, vs, rfl, h, r⟩ := r; exact .dic h (r.tr T)
  | ins C gs => obtain ⟨a, dx, fs, rfl, h, r⟩ := r; exact .ins h (r.tr T)
  | non => exact Rep.tr T r
  | bl b => exact Rep.tr T r
  | int b => exact Rep.tr T r
  | str b => exact Rep.tr T r
  | ty b => exact Rep.tr T r
theorem Own.vw {a : Addr} (r : Own K G H a d) : Vw K G H (.ref a) d := by
  cases d with
  | lst ds => obtain ⟨vs, h, r⟩ := r; exact ⟨a, vs, rfl, .of h, r⟩
  | dic ds => obtain ⟨vs, h, r⟩ := r; exact ⟨a, vs, rfl, .inl h, r⟩
  | ins C gs => obtain ⟨dx, fs, h, r⟩ := r; exact ⟨a, dx, fs, rfl, h, r⟩
  | _ => exact r.elim
theorem Rep.flat {E' : Hp} (r : Rep K E v d) (h : d.flat = true) : Rep K E' v d := by
  cases r with
  | non => exact .non
  | bl b => exact .bl b
  | int b => exact .int b
  | str b => exact .str b
  | ty b => exact .ty b
  | _ => cases h
theorem Reps.flat {E' : Hp} : ∀ {vs ds}, Reps K E vs ds → ds.all D.flat = true → Reps K E' vs ds
  | _, _, .nil, _ => .nil
  | _, _, .cons h r, e => by
    rw [List.all_cons, Bool.and_eq_true] at e
    exact .cons (h.flat e.1) (Reps.flat r e.2)
theorem RepK.flat {E' : Hp} : ∀ {vs ds}, RepK K E vs ds → (ds.all fun p => p.2.flat) = true → RepK K E' vs ds
  | _, _, .nil, _ => .nil
  | _, _, .cons h r, e => by
    rw [List.all_cons, Bool.and_eq_true] at e
    exact .cons (h.flat e.1) (RepK.flat r e.2)
theorem RepF.flat {E' : Hp} : ∀ {vs ds}, RepF K E vs ds → (ds.all fun p => p.2.flat) = true → RepF K E' vs ds
  | _, _, .nil, _ => .nil
  | _, _, .cons h r, e => by
    rw [List.all_cons, Bool.and_eq_true] at e
    exact .cons (h.flat e.1) (RepF.flat r e.2)
theorem Vw.shallow {E' : Hp} (r : Vw K E H v d) (e : d.shallow = true) : Vw K E' H v d := by
  cases d with
  | lst ds => obtain ⟨a, vs, h0, h, r⟩ := r; exact ⟨a, vs, h0, h, r.flat e⟩
  | tup ds => obtain ⟨a, vs, h0, h, r⟩ := r; exact ⟨a, vs, h0, h, r.flat e⟩
  | dic ds => obtain ⟨a, vs, h0, h, r⟩ := r; exact ⟨a, vs, h0, h, r.flat e⟩
  | ins C gs => obtain ⟨a, dx, fs, h0, h, r⟩ := r; exact ⟨a, dx, fs, h0, h, r.flat e⟩
  | non => exact Rep.flat r rfl
  | bl b => exact Rep.flat r rfl
  | int b => exact Rep.flat r rfl
  | str b => exact Rep.flat r rfl
  | ty b => exact Rep.flat r rfl
theorem CR.own_of {B : Hp} {c : C} (r : CR K B G H v c) (e : c.own = some d) : ∃ a, v = .ref a ∧ Own K G H a d := by
  cases c with
  | o x => cases e; exact r
  | p x => cases e; exact r
  | g x => cases e
  | b x => cases e
theorem CR.mk_own {B : Hp} {c : C} {a : Addr} (e : c.own = some d) (r : Own K G H a d) : CR K B G H (.ref a) c := by
  cases c with
  | o x => cases e; exact ⟨a, rfl, r⟩
  | p x => cases e; exact ⟨a, rfl, r⟩
  | g x => cases e
  | b x => cases e
theorem ownAt_some {i : Nat} (h : ownAt L i = some d) : ∃ c, L[i]? = some (some c) ∧ c.own = some d := by
  unfold ownAt at h
  split at h
  · rename_i c e; exact ⟨c, e, h⟩
  · cases h
/-- the view of an operand, its items' heap -/
def eh (F : FB) (G : Hp) : A → Hp
  | .b _ => F.B
  | _ => G
theorem Mem.slot (M : Mem K F lk G L σ H) {i : Nat} (h : ownAt L i = some d) (e : σ[i]? = some (some v)) : ∃ a, v = .ref a ∧ Own K G H a d := by
  obtain ⟨c, h1, h2⟩ := ownAt_some h
  obtain ⟨v', e', r⟩ := M.sl i c h1
  rw [e] at e'; cases e'
  exact r.own_of h2
theorem Mem.vw (M : Mem K F lk G L σ H) {a : A} (r : HR K F lk G L σ H v a) (h : a.get L = some d) : Vw K (eh F G a) H v d := by
  cases a with
  | g x => cases h; exact Rep.vw r M.trG
  | b x => cases h; exact Rep.vw r M.trB
  | sl i => obtain ⟨a, rfl, o⟩ := M.slot h r; exact o.vw
  | f x => cases h; obtain ⟨p, rfl, o, _⟩ := r; exact o.vw
theorem Mem.vwG (M : Mem K F lk G L σ H) {a : A} (r : HR K F lk G L σ H v a) (h : a.vg L = some d) : Vw K G H v d := by
  cases a with
  | g x => cases h; exact Rep.vw r M.trG
  | b x =>
    have h : (if x.shallow = true then some x else none) = some d := h
    by_cases hs : x.shallow = true
    · rw [if_pos hs] at h
      cases h
      exact Vw.shallow (Rep.vw (show Rep K F.B v _ from r) M.trB) hs
    · rw [if_neg hs] at h; cases h
  | sl i => obtain ⟨a, rfl, o⟩ := M.slot h r; exact o.vw
  | f x => cases h; obtain ⟨p, rfl, o, _⟩ := r; exact o.vw
theorem Mem.eh (M : Mem K F lk G L σ H) (a : A) : Tr K (eh F G a) H := by
  cases a with
  | b x => exact M.trB
  | g x => exact M.trG
  | sl x => exact M.trG
  | f x => exact M.trG
theorem Mem.rep (M : Mem K F lk G L σ H) {a : A} (r : HR K F lk G L σ H v a) (h : a.get L = some d) : Rep K H v d := (M.vw r h).rep (M.eh a)
theorem HR.el {a : A} (r : Rep K (QD.eh F G a) v d) : HR K F lk G L σ H v (a.el d) := by
  cases a with
  | g x => exact r
  | sl x => exact r
  | f x => exact r
  | b x =>
    show HR K F lk G L σ H v (if d.flat = true then A.g d else A.b d)
    by_cases hf : d.flat = true
    · rw [if_pos hf]; exact Rep.flat r hf
    · rw [if_neg hf]; exact r
theorem Own.mono {a : Addr} {G' H' : Hp} (r : Own K G H a d) (T : Tr K G G') (hH : H' a = H a) : Own K G' H' a d := by
  cases d with
  | lst ds => obtain ⟨vs, h, r⟩ := r; exact ⟨vs, hH.trans h, r.tr T⟩
  | dic ds => obtain ⟨vs, h, r⟩ := r; exact ⟨vs, hH.trans h, r.tr T⟩
  | ins C gs => obtain ⟨dx, fs, h, r⟩ := r; exact ⟨dx, fs, hH.trans h, r.tr T⟩
  | _ => exact r.elim
theorem Own.some_of {a : Addr} (r : Own K G H a d) : ∃ o, H a = some o := by
  cases d with
  | lst ds => obtain ⟨vs, h, r⟩ := r; exact ⟨_, h⟩
  | dic ds => obtain ⟨vs, h, r⟩ := r; exact ⟨_, h⟩
  | ins C gs => obtain ⟨dx, fs, h, r⟩ := r; exact ⟨_, h⟩
  | _ => exact r.elim
/-- the heap grows, nothing that was there changes -/
theorem Mem.grow (M : Mem K F lk G L σ H) {H' : Hp} (s : Same H H') : Mem K F lk G L σ H' where
  g0 := M.g0
  gH := M.gH.trans s
  bH := M.bH.trans s
  kH := M.kH.trans s
  dom := fun a h => M.dom a (s.free h)
  new := M.new
  lkD := fun a ob h => by
    obtain ⟨kvs, h1, h2⟩ := M.lkD a ob h
    exact ⟨kvs, s _ _ h1, h2⟩
  sl := fun i c h => by
    obtain ⟨v, e, r⟩ := M.sl i c h
    refine ⟨v, e, ?_⟩
    cases c with
    | g d => exact r
    | b d => exact r
    | o d =>
      obtain ⟨a, rfl, o⟩ := r
      obtain ⟨u, hu⟩ := o.some_of
      exact ⟨a, rfl, o.mono .refl ((s _ _ hu).trans hu.symm)⟩
    | p d =>
      obtain ⟨a, rfl, o⟩ := r
      obtain ⟨u, hu⟩ := o.some_of
      exact ⟨a, rfl, o.mono .refl ((s _ _ hu).trans hu.symm)⟩
  own := M.own
  ownO := M.ownO
  inj := M.inj
  par := M.par
  len := M.len
  kn := M.kn
theorem same_upd {p : Addr} {o : HO} (h : H p = none) : Same H (upd H p o) := fun b u e => by
  rw [upd_ne (ne_of_none e h)]; exact e
/-- what is shared grows by a new thing -/
theorem Mem.share (M : Mem K F lk G L σ H) {p : Addr} {o : HO} (hH : H p = some o) (hG : G p = none) (hk : F.Kp p = none) (hl : lk p = none) (h0 : F.H0 p = none)
    (hs : ∀ (i : Nat) c d', L[i]? = some (some c) → c.own = some d' → σ[i]? ≠ some (some (.ref p))) : Mem K F lk (upd G p o) L σ H where
  g0 := M.g0.trans (same_upd hG)
  gH := fun b u e => by
    by_cases hb : b = p
    · subst hb
      unfold lkd at e
      rw [hl, upd_same] at e
      cases e
      exact hH
    · refine M.gH b u ?_
      unfold lkd at e ⊢
      rw [upd_ne hb] at e
      exact e
  bH := M.bH
  kH := M.kH
  dom := M.dom
  new := fun a h1 h2 => by
    by_cases hb : a = p
    · subst hb; exact h0
    · rw [upd_ne hb] at h2; exact M.new a h1 h2
  lkD := fun a ob h => by
    obtain ⟨kvs, h1, h2, h3⟩ := M.lkD a ob h
    refine ⟨kvs, h1, fun o' e => ?_, h3⟩
    rw [upd_ne (fun z => by rw [z, hl] at h; cases h)] at e
    exact h2 o' e
  sl := fun i c h => by
    obtain ⟨v, e, r⟩ := M.sl i c h
    refine ⟨v, e, ?_⟩
    have T : Tr K G (upd G p o) := Tr.same (same_upd hG)
    cases c with
    | g d => exact Rep.tr T r
    | b d => exact r
    | o d => obtain ⟨a, rfl, q⟩ := r; exact ⟨a, rfl, q.mono T rfl⟩
    | p d => obtain ⟨a, rfl, q⟩ := r; exact ⟨a, rfl, q.mono T rfl⟩
  own := fun i c d a h1 h2 h3 => by
    obtain ⟨q1, q2⟩ := M.own i c d a h1 h2 h3
    refine ⟨?_, q2⟩
    rw [upd_ne (fun z => hs i c d h1 h2 (by rw [← z]; exact h3))]
    exact q1
  ownO := M.ownO
  inj := M.inj
  par := M.par
  len := M.len
  kn := fun a u e => by
    rw [upd_ne (fun z => by rw [z, hk] at e; cases e)]
    exact M.kn a u e
theorem Own.share {p : Addr} {o : HO} (r : Own K G H p d) (hH : H p = some o) (hG : G p = none) : Rep K (upd G p o) (.ref p) d := by
  have T : Tr K G (upd G p o) := Tr.same (same_upd hG)
  cases d with
  | lst ds =>
    obtain ⟨vs, h, r⟩ := r
    rw [hH] at h; cases h
    exact .lst (.of upd_same) (r.tr T)
  | dic ds =>
    obtain ⟨vs, h, r⟩ := r
    rw [hH] at h; cases h
    exact .dic (.inl upd_same) (r.tr T)
  | ins C gs =>
    obtain ⟨dx, fs, h, r⟩ := r
    rw [hH] at h; cases h
    exact .ins upd_same (r.tr T)
  | _ => exact r.elim
/-- a new container is shared -/
theorem Mem.freeze (M : Mem K F lk G L σ H) (r : HR K F lk G L σ H v (.f d)) : ∃ G', Same G G' ∧ Mem K F lk G' L σ H ∧ Rep K G' v d := by
  obtain ⟨p, rfl, o, h1, h2, h3, h4, h5⟩ := r
  obtain ⟨u, hu⟩ := o.some_of
  exact ⟨upd G p u, same_upd h1, M.share hu h1 h2.2 h3 h4 h5, o.share hu h1⟩
end
end QD

set_option Elab.async false
set_option linter.all false
set_option maxRecDepth 100000
set_option maxHeartbeats 4000000
namespace QD
open PySem PySem.Spec L2 PyProof.Rows
/-! an exception that is wished for: its class, its own attributes -/
abbrev XP := Value × List (Str × D) → Prop
abbrev UE := XP → Env' → (Env' → A → Prop) → Prop
abbrev UG := XP → Env' → (Env' → D → Prop) → Prop
abbrev UT := XP → Env' → (Env' → Bool → Prop) → Prop
abbrev UA := XP → Env' → (Env' → List A → Prop) → Prop
/-- what is returned: shared, or a new container -/
inductive R where
  | s (d : D) | o (d : D)
structure ED where
  nx : Env' → Prop
  rt : Env' → R → Prop
  bk : Env' → Prop := fun _ => False
  ct : Env' → Prop := fun _ => False
abbrev US := XP → ED → Env' → Prop
def XLk (K : PySem.W.Frag) (F : FB) (lk : Lk) (E : XK) (XQ : XP) : Prop :=
  (lk = lk0 ∨ ∀ x, ¬ XQ x) ∧ ∀ G L σ H cls dx fs ds, Mem K F lk0 G L σ H → H dx = some (.xd fs) → F.H0 dx = none → RepF K G fs ds → XQ (cls, ds) → E cls (some dx) H
def Post (K : PySem.W.Frag) (F : FB) (lk : Lk) (G : Hp) (σ : St) (QD : Env' → A → Prop) (Q : VK) : Prop :=
  ∀ v H' G' L' a, Same G G' → Mem K F lk G' L' σ H' → HR K F lk G' L' σ H' v a → QD L' a → Q v H'
def PostG (K : PySem.W.Frag) (F : FB) (lk : Lk) (G : Hp) (σ : St) (QD : Env' → D → Prop) (Q : VK) : Prop :=
  ∀ v H' G' L' d, Same G G' → Mem K F lk G' L' σ H' → Rep K G' v d → QD L' d → Q v H'
def PostT (K : PySem.W.Frag) (F : FB) (lk : Lk) (G : Hp) (σ : St) (QD : Env' → Bool → Prop) (Q : Bool → Hp → Prop) : Prop :=
  ∀ b H' G' L', Same G G' → Mem K F lk G' L' σ H' → QD L' b → Q b H'
inductive HRs (K : PySem.W.Frag) (F : FB) (lk : Lk) (G : Hp) (L : Env') (σ : St) (H : Hp) : List V → List A → Prop
  | nil : HRs K F lk G L σ H [] []
  | cons {v a vs as} : HR K F lk G L σ H v a → HRs K F lk G L σ H vs as → HRs K F lk G L σ H (v :: vs) (a :: as)
def PostA (K : PySem.W.Frag) (F : FB) (lk : Lk) (G : Hp) (σ : St) (QD : Env' → List A → Prop) (Q : List V → Hp → Prop) : Prop :=
  ∀ vs H' G' L' as, Same G G' → Mem K F lk G' L' σ H' → HRs K F lk G' L' σ H' vs as → QD L' as → Q vs H'
/-- an expression -/
structure DX (X : Cx) (E : XK) (e : Expr) (u : UE) : Prop where
  ex : ∃ t, PE X e t ∧ ∀ F lk G L σ H Q QD XQ, Mem X.K F lk G L σ H → XLk X.K F lk E XQ → u XQ L QD → Post X.K F lk G σ QD Q → t σ H Q
/-- an operand: what it gives stays as it is while others are reckoned (no new container) -/
structure DO (X : Cx) (E : XK) (e : Expr) (u : UE) : Prop where
  ex : ∃ t, PE X e t ∧ ∀ F lk G L σ H Q QD XQ, Mem X.K F lk G L σ H → XLk X.K F lk E XQ → u XQ L QD → 
    (∀ v H' G' L' a, Same G G' → Mem X.K F lk G' L' σ H' → HR X.K F lk G' L' σ H' v a → (∀ d, a ≠ .f d) → QD L' a → Q v H') → t σ H Q
structure DG (X : Cx) (E : XK) (e : Expr) (u : UG) : Prop where
  ex : ∃ t, PE X e t ∧ ∀ F lk G L σ H Q QD XQ, Mem X.K F lk G L σ H → XLk X.K F lk E XQ → u XQ L QD → PostG X.K F lk G σ QD Q → t σ H Q
structure DT (X : Cx) (E : XK) (e : Expr) (u : UT) : Prop where
  ex : ∃ t, PT X e t ∧ ∀ F lk G L σ H Q QD XQ, Mem X.K F lk G L σ H → XLk X.K F lk E XQ → u XQ L QD → PostT X.K F lk G σ QD Q → t σ H Q
structure DTw (X : Cx) (E : XK) (e : Expr) (u : UT) : Prop where
  ex : ∃ t, PW X e t ∧ ∀ F lk G L σ H Q QD XQ, Mem X.K F lk G L σ H → XLk X.K F lk E XQ → u XQ L QD → PostT X.K F lk G σ QD Q → t σ H Q
/-- operands in a row -/
structure DA (X : Cx) (E : XK) (es : List Expr) (u : UA) : Prop where
  ex : ∃ t, PA X es t ∧ ∀ F lk G L σ H Q QD XQ, Mem X.K F lk G L σ H → XLk X.K F lk E XQ → u XQ L QD →
    (∀ vs H' G' L' as, Same G G' → Mem X.K F lk G' L' σ H' → HRs X.K F lk G' L' σ H' vs as → (∀ d, A.f d ∉ as) → QD L' as → Q vs H') → t σ H Q

section
variable {K : PySem.W.Frag} {F : FB} {lk : Lk} {G G' : Hp} {L L' : Env'} {σ : St} {H H' : Hp} {v : V} {d : D}
/-- an operand stays what it is -/
theorem HR.stay {a : A} (r : HR K F lk G L σ H v a) (n : ∀ d, a ≠ .f d) (s : Same G G') : HR K F lk G' L' σ H' v a := by
  cases a with
  | g d => exact Rep.tr (Tr.same s) r
  | b d => exact r
  | sl i => exact r
  | f d => exact absurd rfl (n d)
theorem HRs.stay : ∀ {vs as}, HRs K F lk G L σ H vs as → (∀ d, A.f d ∉ as) → Same G G' → HRs K F lk G' L' σ H' vs as
  | _, _, .nil, _, _ => .nil
  | _, _, .cons r t, n, s => .cons (r.stay (fun d e => n d (e ▸ List.mem_cons_self)) s) (HRs.stay t (fun d h => n d (List.mem_cons_of_mem _ h)) s)
end
def frzA : A → A
  | .f d => .g d
  | a => a
def uO (u : UE) : UE := fun XQ L QD => u XQ L fun L' a => QD L' (frzA a)
section
variable {X : Cx} {E : XK} {e : Expr} {u : UE}
theorem frzA_nf {a : A} (d : D) : frzA a ≠ .f d := by cases a <;> simp [frzA]
theorem do_of (h : DX X E e u) : DO X E e (uO u) := by
  obtain ⟨t, pe, ok⟩ := h.ex
  refine ⟨t, pe, fun F lk G L σ H Q QD XQ M xl hu po => ok F lk G L σ H Q _ XQ M xl hu fun v H' G' L' a s M' r q => ?_⟩
  cases a with
  | f d =>
    obtain ⟨G2, s2, M2, r2⟩ := M'.freeze r
    exact po v H' G2 L' (.g d) (s.trans s2) M2 r2 (fun _ z => nomatch z) q
  | g d => exact po v H' G' L' _ s M' r (fun _ z => nomatch z) q
  | b d => exact po v H' G' L' _ s M' r (fun _ z => nomatch z) q
  | sl d => exact po v H' G' L' _ s M' r (fun _ z => nomatch z) q
theorem dx_of (h : DO X E e u) : DX X E e u := by
  obtain ⟨t, pe, ok⟩ := h.ex
  exact ⟨t, pe, fun F lk G L σ H Q QD XQ M xl hu po => ok F lk G L σ H Q QD XQ M xl hu fun v H' G' L' a s M' r _ q => po v H' G' L' a s M' r q⟩
/-- what escapes is shared from then on -/
def esc (L : Env') (QD : Env' → D → Prop) : A → Prop
  | .g d => QD L d
  | .f d => QD L d
  | .b d => d.flat = true ∧ QD L d
  | .sl i => match L[i]? with
    | some (some (.o d)) => QD (L.set i (some (.g d))) d
    | _ => False
def uG (u : UE) : UG := fun XQ L QD => u XQ L fun L' a => esc L' QD a
theorem Mem.toShared {K : PySem.W.Frag} {F : FB} {lk : Lk} {G : Hp} {L : Env'} {σ : St} {H : Hp} {i : Nat} {d : D} {v : V} (M : Mem K F lk G L σ H) (hi : L[i]? = some (some (.o d))) (hv : σ[i]? = some (some v)) :
    ∃ G', Same G G' ∧ Mem K F lk G' (L.set i (some (.g d))) σ H ∧ Rep K G' v d := by
  obtain ⟨v', e, r⟩ := M.sl i _ hi
  rw [hv] at e; cases e
  obtain ⟨p, rfl, o⟩ := r
  obtain ⟨h1, h2, h3⟩ := M.own i _ d p hi rfl hv
  have h4 := M.ownO i d p hi hv
  obtain ⟨w, hw⟩ := o.some_of
  have hil : i < L.length := (List.getElem?_eq_some_iff.mp hi).1
  have back : ∀ (j : Nat) c, (L.set i (some (C.g d)))[j]? = some (some c) → (j = i ∧ c = .g d) ∨ (j ≠ i ∧ L[j]? = some (some c)) := fun j c h => by
    by_cases hj : j = i
    · subst hj
      rw [List.getElem?_set_self hil] at h
      cases h
      exact .inl ⟨rfl, rfl⟩
    · rw [List.getElem?_set_ne (Ne.symm hj)] at h
      exact .inr ⟨hj, h⟩
  have ne : ∀ (j : Nat) c d', j ≠ i → L[j]? = some (some c) → c.own = some d' → σ[j]? ≠ some (some (.ref p)) := fun j c d' hj h hc z => hj (M.inj j i c _ d' d p h hc hi rfl z hv)
  -- first: the slot becomes what it is once p is shared; the others as they were
  have T : Tr K G (upd G p w) := Tr.same (same_upd h1)
  refine ⟨upd G p w, same_upd h1, ⟨M.g0.trans (same_upd h1), fun b u e => ?_, M.bH, M.kH, M.dom, fun a q1 q2 => ?_, fun a ob h => ?_, fun j c h => ?_, fun j c d' a q1 q2 q3 => ?_, fun j d' a q1 q2 => ?_, fun j k c c' d1 d2 a q1 q2 q3 q4 q5 q6 => ?_, fun q hq => ?_, by rw [List.length_set]; exact M.len, fun a u e => by rw [upd_ne (fun z => by rw [z, h2.2] at e; cases e)]; exact M.kn a u e⟩, o.share hw h1⟩
  · by_cases hb : b = p
    · subst hb
      unfold lkd at e
      rw [h3, upd_same] at e
      cases e
      exact hw
    · refine M.gH b u ?_
      unfold lkd at e ⊢
      rw [upd_ne hb] at e
      exact e
  · by_cases hb : a = p
    · subst hb; exact h4
    · rw [upd_ne hb] at q2; exact M.new a q1 q2
  · obtain ⟨kvs, e1, e2, e3⟩ := M.lkD a ob h
    refine ⟨kvs, e1, fun o' e => ?_, e3⟩
    rw [upd_ne (fun z => by rw [z, h3] at h; cases h)] at e
    exact e2 o' e
  · rcases back j c h with ⟨rfl, rfl⟩ | ⟨hj, h⟩
    · exact ⟨_, hv, o.share hw h1⟩
    · obtain ⟨v', e, r⟩ := M.sl j c h
      refine ⟨v', e, ?_⟩
      cases c with
      | g d => exact Rep.tr T r
      | b d => exact r
      | o d => obtain ⟨a, rfl, q⟩ := r; exact ⟨a, rfl, q.mono T rfl⟩
      | p d => obtain ⟨a, rfl, q⟩ := r; exact ⟨a, rfl, q.mono T rfl⟩
  · rcases back j c q1 with ⟨rfl, rfl⟩ | ⟨hj, h⟩
    · cases q2
    · obtain ⟨z1, z2⟩ := M.own j c d' a h q2 q3
      refine ⟨?_, z2⟩
      rw [upd_ne (fun z => ne j c d' hj h q2 (by rw [← z]; exact q3))]
      exact z1
  · rcases back j _ q1 with ⟨rfl, z⟩ | ⟨hj, h⟩
    · cases z
    · exact M.ownO j d' a h q2
  · rcases back j _ q1 with ⟨rfl, rfl⟩ | ⟨hj, h⟩
    · cases q2
    · rcases back k _ q3 with ⟨rfl, rfl⟩ | ⟨hk, h'⟩
      · cases q4
      · exact M.inj j k c c' d1 d2 a h q2 h' q4 q5 q6
  · obtain ⟨z1, d', z2⟩ := M.par q hq
    refine ⟨z1, d', ?_⟩
    have : q.1 ≠ i := fun z => by rw [z, hi] at z2; cases z2
    rw [List.getElem?_set_ne (Ne.symm this)]
    exact z2
theorem dg_of (h : DX X E e u) : DG X E e (uG u) := by
  obtain ⟨t, pe, ok⟩ := h.ex
  refine ⟨t, pe, fun F lk G L σ H Q QD XQ M xl hu po => ok F lk G L σ H Q _ XQ M xl hu fun v H' G' L' a s M' r q => ?_⟩
  cases a with
  | f d =>
    obtain ⟨G2, s2, M2, r2⟩ := M'.freeze r
    exact po v H' G2 L' d (s.trans s2) M2 r2 q
  | g d => exact po v H' G' L' d s M' r q
  | b d => exact po v H' G' L' d s M' (Rep.flat (show Rep X.K F.B v d from r) q.1) q.2
  | sl i =>
    have q : (match L'[i]? with | some (some (.o d)) => QD (L'.set i (some (.g d))) d | _ => False) := q
    split at q
    · rename_i d hi
      obtain ⟨G2, s2, M2, r2⟩ := M'.toShared hi r
      exact po v H' G2 _ d (s.trans s2) M2 r2 q
    · exact q.elim
theorem dx_of_g {u : UG} (h : DG X E e u) : DO X E e (fun XQ L QD => u XQ L fun L' d => QD L' (.g d)) := by
  obtain ⟨t, pe, ok⟩ := h.ex
  exact ⟨t, pe, fun F lk G L σ H Q QD XQ M xl hu po => ok F lk G L σ H Q _ XQ M xl hu fun v H' G' L' d s M' r q => po v H' G' L' (.g d) s M' r (fun _ z => nomatch z) q⟩
end

/-! names, constants -/
def uVar (i : Nat) : UE := fun _ L QD => match L[i]? with
  | some (some (.g d)) => QD L (.g d)
  | some (some (.b d)) => QD L (.b d)
  | some (some (.o _)) => QD L (.sl i)
  | some (some (.p _)) => QD L (.sl i)
  | _ => False
def uC (d : D) : UE := fun _ L QD => QD L (.g d)
section
variable {X : Cx} {E : XK} {pos : Pos}
theorem do_var' {i : Nat} {x : Str} (h : PE X (.Name x pos) (tVar i)) : DO X E (.Name x pos) (uVar i) := by
  refine ⟨_, h, fun F lk G L σ H Q QD XQ M xl hu po => ?_⟩
  unfold uVar at hu
  split at hu
  · rename_i d e
    obtain ⟨v, e1, r⟩ := M.sl i _ e
    exact ⟨v, e1, po v H G L (.g d) (.refl _) M r (fun _ z => nomatch z) hu⟩
  · rename_i d e
    obtain ⟨v, e1, r⟩ := M.sl i _ e
    exact ⟨v, e1, po v H G L (.b d) (.refl _) M r (fun _ z => nomatch z) hu⟩
  · rename_i d e
    obtain ⟨v, e1, r⟩ := M.sl i _ e
    exact ⟨v, e1, po v H G L (.sl i) (.refl _) M e1 (fun _ z => nomatch z) hu⟩
  · rename_i d e
    obtain ⟨v, e1, r⟩ := M.sl i _ e
    exact ⟨v, e1, po v H G L (.sl i) (.refl _) M e1 (fun _ z => nomatch z) hu⟩
  · exact hu.elim
theorem do_var (i : Nat) {x : Str} (hN : X.N[i]? = some x := by rfl) (hv : Vis X.env.scope x := by first | exact Or.inl rfl | exact Or.inr (Or.inl rfl) | exact Or.inr (Or.inr rfl)) (hd : (x == ("__debug__" : Str)) = false := by decide)
    (hcd : (x == ("__classdict__" : Str)) = false := by decide) : DO X E (.Name x pos) (uVar i) := do_var' (pe_var hN hv hd hcd)
theorem do_c {e : Expr} {v : V} {d : D} (h : PE X e (tC v)) (r : ∀ G, Rep X.K G v d) : DO X E e (uC d) :=
  ⟨_, h, fun F lk G L σ H Q QD XQ M xl hu po => po v H G L (.g d) (.refl _) M (r G) (fun _ z => nomatch z) hu⟩
theorem do_int {i j} : DO X E (.Constant (.int i) j pos) (uC (.int i)) := do_c pe_int fun _ => .int _
theorem do_bl {i j} : DO X E (.Constant (.bool i) j pos) (uC (.bl i)) := do_c pe_bl fun _ => .bl _
theorem do_non {j} : DO X E (.Constant .none j pos) (uC .non) := do_c pe_non fun _ => .non
theorem do_str {i j} : DO X E (.Constant (.str i) j pos) (uC (.str i)) := do_c pe_str fun _ => .str _
end

/-! operators by what they do on data: S a scalar, F a new container, E an item of the first -/
def SO2 (K : PySem.W.Frag) (r : R2) (fn : D → D → Option D) : Prop := ∀ (H : Hp) x y d1 d2 d, Rep K H x d1 → Rep K H y d2 → fn d1 d2 = some d → ∃ w, (∀ G, Rep K G w d) ∧ ∀ Q : VK, Q w H → r x y H Q
def SO1 (K : PySem.W.Frag) (r : V → Hp → VK → Prop) (fn : D → Option D) : Prop := ∀ (H : Hp) x d1 d, Rep K H x d1 → fn d1 = some d → ∃ w, (∀ G, Rep K G w d) ∧ ∀ Q : VK, Q w H → r x H Q
def FO2 (K : PySem.W.Frag) (r : R2) (fn : D → D → Option D) : Prop := ∀ (E H : Hp) x y d1 d2 d, Vw K E H x d1 → Vw K E H y d2 → fn d1 d2 = some d → ∀ Q : VK, (∀ p o, H p = none → Own K E (upd H p o) p d → Q (.ref p) (upd H p o)) → r x y H Q
def EO2 (K : PySem.W.Frag) (r : R2) (fn : D → D → Option D) : Prop := ∀ (E H : Hp) x y d1 d2 d, Vw K E H x d1 → Rep K H y d2 → fn d1 d2 = some d → ∃ w, Rep K E w d ∧ ∀ Q : VK, Q w H → r x y H Q
def u2 (ua ub : UE) (k : Env' → A → A → (Env' → A → Prop) → Prop) : UE := fun XQ L QD => ua XQ L fun L1 a => ub XQ L1 fun L2 b => k L2 a b QD
def uS2 (fn : D → D → Option D) (ua ub : UE) : UE := u2 ua ub fun L a b QD => ∃ x y d, a.get L = some x ∧ b.get L = some y ∧ fn x y = some d ∧ QD L (.g d)
def uF2 (fn : D → D → Option D) (ua ub : UE) : UE := u2 ua ub fun L a b QD => ∃ x y d, a.vg L = some x ∧ b.vg L = some y ∧ fn x y = some d ∧ QD L (.f d)
def uE2 (fn : D → D → Option D) (ua ub : UE) : UE := u2 ua ub fun L a b QD => ∃ x y d, a.get L = some x ∧ b.get L = some y ∧ fn x y = some d ∧ QD L (a.el d)
def uS1 (fn : D → Option D) (ua : UE) : UE := fun XQ L QD => ua XQ L fun L a => ∃ x d, a.get L = some x ∧ fn x = some d ∧ QD L (.g d)

section
variable {K : PySem.W.Frag} {F : FB} {lk : Lk} {G : Hp} {L : Env'} {σ : St} {H : Hp}
/-- a new container was laid -/
theorem Mem.made (M : Mem K F lk G L σ H) {p : Addr} {o : HO} {d : D} (hp : H p = none) (ow : Own K G (upd H p o) p d) : Mem K F lk G L σ (upd H p o) ∧ HR K F lk G L σ (upd H p o) (.ref p) (.f d) := by
  refine ⟨M.grow (same_upd hp), p, rfl, ow, M.gnone hp, M.bnone hp, M.lknone hp, M.dom p hp, fun i c d' h1 h2 h3 => ?_⟩
  obtain ⟨v, e, r⟩ := M.sl i c h1
  rw [h3] at e; cases e
  obtain ⟨a, e, ow'⟩ := r.own_of h2
  cases e
  obtain ⟨u, hu⟩ := ow'.some_of
  rw [hp] at hu; cases hu
end
section
variable {X : Cx} {E : XK} {a b : Expr} {ua ub : UE} {pos : Pos} {fn : D → D → Option D} {r : R2}
theorem dx_op2 {e : Expr} (pe : ∀ {ta tb}, PE X a ta → PE X b tb → PE X e (tOp r ta tb)) (ha : DO X E a ua) (hb : DO X E b ub) {k : Env' → A → A → (Env' → A → Prop) → Prop}
    (hk : ∀ F lk G L σ H x y a b QD (Q : VK), Mem X.K F lk G L σ H → HR X.K F lk G L σ H x a → HR X.K F lk G L σ H y b → k L a b QD → Post X.K F lk G σ QD Q → r x y H Q) : DX X E e (u2 ua ub k) := by
  obtain ⟨ta, pa, oa⟩ := ha.ex
  obtain ⟨tb, pb, ob⟩ := hb.ex
  refine ⟨_, pe pa pb, fun F lk G L σ H Q QD XQ M xl hu po => ?_⟩
  refine oa F lk G L σ H _ _ XQ M xl hu fun x H1 G1 L1 aa s1 M1 r1 n1 q1 => ?_
  refine ob F lk G1 L1 σ H1 _ _ XQ M1 xl q1 fun y H2 G2 L2 bb s2 M2 r2 n2 q2 => ?_
  exact hk F lk G2 L2 σ H2 x y aa bb QD Q M2 (r1.stay n1 s2) r2 q2 fun v H' G' L' a s M' r q => po v H' G' L' a ((s1.trans s2).trans s) M' r q
theorem kS2 (ho : SO2 X.K r fn) : ∀ F lk G L σ H x y a b QD (Q : VK), Mem X.K F lk G L σ H → HR X.K F lk G L σ H x a → HR X.K F lk G L σ H y b → (∃ x y d, a.get L = some x ∧ b.get L = some y ∧ fn x y = some d ∧ QD L (.g d)) → Post X.K F lk G σ QD Q → r x y H Q := by
  intro F lk G L σ H x y a b QD Q M ra rb ⟨d1, d2, d, e1, e2, e3, q⟩ po
  obtain ⟨w, rw', k⟩ := ho H x y d1 d2 d (M.rep ra e1) (M.rep rb e2) e3
  exact k Q (po w H G L (.g d) (.refl _) M (rw' G) q)
theorem kF2 (ho : FO2 X.K r fn) : ∀ F lk G L σ H x y a b QD (Q : VK), Mem X.K F lk G L σ H → HR X.K F lk G L σ H x a → HR X.K F lk G L σ H y b → (∃ x y d, a.vg L = some x ∧ b.vg L = some y ∧ fn x y = some d ∧ QD L (.f d)) → Post X.K F lk G σ QD Q → r x y H Q := by
  intro F lk G L σ H x y a b QD Q M ra rb ⟨d1, d2, d, e1, e2, e3, q⟩ po
  refine ho G H x y d1 d2 d (M.vwG ra e1) (M.vwG rb e2) e3 Q fun p o hp ow => ?_
  obtain ⟨M', h'⟩ := M.made hp ow
  exact po _ _ G L (.f d) (.refl _) M' h' q
theorem kE2 (ho : EO2 X.K r fn) : ∀ F lk G L σ H x y a b QD (Q : VK), Mem X.K F lk G L σ H → HR X.K F lk G L σ H x a → HR X.K F lk G L σ H y b → (∃ x y d, a.get L = some x ∧ b.get L = some y ∧ fn x y = some d ∧ QD L (a.el d)) → Post X.K F lk G σ QD Q → r x y H Q := by
  intro F lk G L σ H x y a b QD Q M ra rb ⟨d1, d2, d, e1, e2, e3, q⟩ po
  obtain ⟨w, rw', k⟩ := ho (eh F G a) H x y d1 d2 d (M.vw ra e1) (M.rep rb e2) e3
  exact k Q (po w H G L (a.el d) (.refl _) M (HR.el rw') q)
theorem dx_bin {op : Operator} (ho : OpR X (binaryOp op) r) (hs : SO2 X.K r fn) (ha : DO X E a ua) (hb : DO X E b ub) : DX X E (.BinOp a op b pos) (uS2 fn ua ub) := dx_op2 (pe_op ho) ha hb (kS2 hs)
theorem dx_binF {op : Operator} (ho : OpR X (binaryOp op) r) (hs : FO2 X.K r fn) (ha : DO X E a ua) (hb : DO X E b ub) : DX X E (.BinOp a op b pos) (uF2 fn ua ub) := dx_op2 (pe_op ho) ha hb (kF2 hs)
theorem dx_cmp {op : CmpOp} (ho : OpR X (compareOp op) r) (hs : SO2 X.K r fn) (hm : behindInMarks op b = false) (ha : DO X E a ua) (hb : DO X E b ub) : DX X E (.Compare a [op] [b] pos) (uS2 fn ua ub) :=
  dx_op2 (fun pa pb => pe_cmpR ho pa pb hm) ha hb (kS2 hs)
theorem dx_ix (hr : IxR X r) (hs : EO2 X.K r fn) (hp : PlainIx b) (ha : DO X E a ua) (hb : DO X E b ub) : DX X E (.Subscript a b pos) (uE2 fn ua ub) :=
  dx_op2 (fun pa pb => pe_ix hr pa pb hp) ha hb (kE2 hs)
theorem dx_un {op : UnaryOp} {r : V → Hp → VK → Prop} {fn : D → Option D} (ho : UnR X (unaryOp op) r) (hs : SO1 X.K r fn) (ha : DO X E a ua) : DX X E (.UnaryOp op a pos) (uS1 fn ua) := by
  obtain ⟨ta, pa, oa⟩ := ha.ex
  refine ⟨_, pe_un ho pa, fun F lk G L σ H Q QD XQ M xl hu po => ?_⟩
  refine oa F lk G L σ H _ _ XQ M xl hu fun x H1 G1 L1 aa s1 M1 r1 n1 q1 => ?_
  obtain ⟨d1, d, e1, e2, q⟩ := q1
  obtain ⟨w, rw', k⟩ := hs H1 x d1 d (M1.rep r1 e1) e2
  exact k Q (po w H1 G1 L1 (.g d) s1 M1 (rw' G1) q)
end
end QD

set_option Elab.async false
set_option linter.all false
set_option maxRecDepth 100000
set_option maxHeartbeats 4000000
namespace QD
open PySem PySem.Spec L2 PyProof.Rows
/-! tests -/
def uB (u : UE) : UT := fun XQ L QD => u XQ L fun L' a => ∃ b, a.get L' = some (.bl b) ∧ QD L' b
def uNot (u : UT) : UT := fun XQ L QD => u XQ L fun L' b => QD L' (!b)
def uAnd (u w : UT) : UT := fun XQ L QD => u XQ L fun L' b => if b = true then w XQ L' QD else QD L' false
def uOr (u w : UT) : UT := fun XQ L QD => u XQ L fun L' b => if b = true then QD L' true else w XQ L' QD
def uIf (c : UT) (u w : UE) : UE := fun XQ L QD => c XQ L fun L' b => if b = true then u XQ L' QD else w XQ L' QD
/-- a value that is a bool -/
def uTE (u : UT) : UE := fun XQ L QD => u XQ L fun L' b => QD L' (.g (.bl b))
section
variable {X : Cx} {E : XK} {a b c e : Expr} {ua ub : UE} {pos : Pos}
theorem HR.bl {K : PySem.W.Frag} {F : FB} {lk : Lk} {G : Hp} {L : Env'} {σ : St} {H : Hp} {v : V} {aa : A} {k : Bool} (M : Mem K F lk G L σ H) (r : HR K F lk G L σ H v aa) (e : aa.get L = some (.bl k)) : v = .bl k := by
  have q := M.rep r e
  cases q
  rfl
/-- a comparison (or whatever) as a test -/
theorem dt_of (pt : ∀ {t}, PE X e t → PT X e (tB t)) (h : DX X E e ua) : DT X E e (uB ua) := by
  obtain ⟨t, pe, ok⟩ := h.ex
  refine ⟨_, pt pe, fun F lk G L σ H Q QD XQ M xl hu po => ?_⟩
  refine ok F lk G L σ H _ _ XQ M xl hu fun x H1 G1 L1 aa s1 M1 r1 q1 => ?_
  obtain ⟨k, e1, q⟩ := q1
  exact ⟨k, HR.bl M1 r1 e1, po k H1 G1 L1 s1 M1 q⟩
theorem dt_val (h : DX X E e ua) (he : ∀ whole, isTrue e X.env whole = (do let v ← whole; standAt e.pos; holding [v] (truthy v)) := by intro _; rfl) : DT X E e (uB ua) := dt_of (fun p => pt_val p he) h
theorem dt_cmp {op : CmpOp} {r : R2} {fn : D → D → Option D} (ho : OpR X (compareOp op) r) (hs : SO2 X.K r fn) (hm : behindInMarks op b = false) (ha : DO X E a ua) (hb : DO X E b ub) : DT X E (.Compare a [op] [b] pos) (uB (uS2 fn ua ub)) := by
  obtain ⟨ta, pa, oa⟩ := ha.ex
  obtain ⟨tb, pb, ob⟩ := hb.ex
  refine ⟨_, pt_cmpR ho pa pb hm, fun F lk G L σ H Q QD XQ M xl hu po => ?_⟩
  refine oa F lk G L σ H _ _ XQ M xl hu fun x H1 G1 L1 aa s1 M1 r1 n1 q1 => ?_
  refine ob F lk G1 L1 σ H1 _ _ XQ M1 xl q1 fun y H2 G2 L2 bb s2 M2 r2 n2 q2 => ?_
  refine kS2 hs F lk G2 L2 σ H2 x y aa bb (fun L' a => ∃ b, a.get L' = some (.bl b) ∧ QD L' b) _ M2 (r1.stay n1 s2) r2 q2 fun v H' G' L' a s M' r q => ?_
  obtain ⟨k, e1, q⟩ := q
  exact ⟨k, HR.bl M' r e1, po k H' G' L' ((s1.trans s2).trans s) M' q⟩
theorem dt_w {u : UT} (h : DTw X E e u) : DT X E e u := by
  obtain ⟨t, p, ok⟩ := h.ex
  exact ⟨t, p.pt, ok⟩
theorem dt_not {u : UT} (h : DT X E a u) : DT X E (.UnaryOp .Not a pos) (uNot u) := by
  obtain ⟨t, p, ok⟩ := h.ex
  refine ⟨_, pt_not p, fun F lk G L σ H Q QD XQ M xl hu po => ?_⟩
  exact ok F lk G L σ H _ _ XQ M xl hu fun k H1 G1 L1 s1 M1 q1 => po (!k) H1 G1 L1 s1 M1 q1
theorem dw_and1 {u : UT} (h : DT X E a u) : DTw X E (.BoolOp .And [a] pos) u := by
  obtain ⟨t, p, ok⟩ := h.ex
  exact ⟨t, pw_and1 p, ok⟩
theorem dw_or1 {u : UT} (h : DT X E a u) : DTw X E (.BoolOp .Or [a] pos) u := by
  obtain ⟨t, p, ok⟩ := h.ex
  exact ⟨t, pw_or1 p, ok⟩
theorem dw_and {u w : UT} {rest : List Expr} (h : DT X E a u) (h2 : DTw X E (.BoolOp .And (b :: rest) pos) w) : DTw X E (.BoolOp .And (a :: b :: rest) pos) (uAnd u w) := by
  obtain ⟨t, p, ok⟩ := h.ex
  obtain ⟨t2, p2, ok2⟩ := h2.ex
  refine ⟨_, pw_and p p2, fun F lk G L σ H Q QD XQ M xl hu po => ?_⟩
  refine ok F lk G L σ H _ _ XQ M xl hu fun k H1 G1 L1 s1 M1 q1 => ?_
  cases k with
  | true => exact ok2 F lk G1 L1 σ H1 _ _ XQ M1 xl q1 fun k H2 G2 L2 s2 M2 q2 => po k H2 G2 L2 (s1.trans s2) M2 q2
  | false => exact po false H1 G1 L1 s1 M1 q1
theorem dw_or {u w : UT} {rest : List Expr} (h : DT X E a u) (h2 : DTw X E (.BoolOp .Or (b :: rest) pos) w) : DTw X E (.BoolOp .Or (a :: b :: rest) pos) (uOr u w) := by
  obtain ⟨t, p, ok⟩ := h.ex
  obtain ⟨t2, p2, ok2⟩ := h2.ex
  refine ⟨_, pw_or p p2, fun F lk G L σ H Q QD XQ M xl hu po => ?_⟩
  refine ok F lk G L σ H _ _ XQ M xl hu fun k H1 G1 L1 s1 M1 q1 => ?_
  cases k with
  | true => exact po true H1 G1 L1 s1 M1 q1
  | false => exact ok2 F lk G1 L1 σ H1 _ _ XQ M1 xl q1 fun k H2 G2 L2 s2 M2 q2 => po k H2 G2 L2 (s1.trans s2) M2 q2
/-! as values: all parts bools -/
def uAndV (u w : UE) : UE := fun XQ L QD => u XQ L fun L' a => ∃ b, a.get L' = some (.bl b) ∧ if b = true then w XQ L' QD else QD L' (.g (.bl false))
def uOrV (u w : UE) : UE := fun XQ L QD => u XQ L fun L' a => ∃ b, a.get L' = some (.bl b) ∧ if b = true then QD L' (.g (.bl true)) else w XQ L' QD
def uNotV (u : UE) : UE := fun XQ L QD => u XQ L fun L' a => ∃ b, a.get L' = some (.bl b) ∧ QD L' (.g (.bl (!b)))
theorem dx_one {op : BoolOp} (h : DX X E a ua) (pe1 : ∀ {t}, PE X a t → PE X (.BoolOp op [a] pos) t) : DX X E (.BoolOp op [a] pos) ua := by
  obtain ⟨t, p, ok⟩ := h.ex
  exact ⟨t, pe1 p, ok⟩
theorem dx_and {rest : List Expr} (h : DX X E a ua) (h2 : DX X E (.BoolOp .And (b :: rest) pos) ub) : DX X E (.BoolOp .And (a :: b :: rest) pos) (uAndV ua ub) := by
  obtain ⟨t, p, ok⟩ := h.ex
  obtain ⟨t2, p2, ok2⟩ := h2.ex
  refine ⟨_, pe_and p p2, fun F lk G L σ H Q QD XQ M xl hu po => ?_⟩
  refine ok F lk G L σ H _ _ XQ M xl hu fun x H1 G1 L1 aa s1 M1 r1 q1 => ?_
  obtain ⟨k, e1, q⟩ := q1
  refine ⟨k, HR.bl M1 r1 e1, ?_⟩
  cases k with
  | true => exact ok2 F lk G1 L1 σ H1 _ _ XQ M1 xl q fun v H2 G2 L2 a s2 M2 r2 q2 => po v H2 G2 L2 a (s1.trans s2) M2 r2 q2
  | false => exact po _ H1 G1 L1 (.g (.bl false)) s1 M1 (Rep.bl _) q
theorem dx_or {rest : List Expr} (h : DX X E a ua) (h2 : DX X E (.BoolOp .Or (b :: rest) pos) ub) : DX X E (.BoolOp .Or (a :: b :: rest) pos) (uOrV ua ub) := by
  obtain ⟨t, p, ok⟩ := h.ex
  obtain ⟨t2, p2, ok2⟩ := h2.ex
  refine ⟨_, pe_or p p2, fun F lk G L σ H Q QD XQ M xl hu po => ?_⟩
  refine ok F lk G L σ H _ _ XQ M xl hu fun x H1 G1 L1 aa s1 M1 r1 q1 => ?_
  obtain ⟨k, e1, q⟩ := q1
  refine ⟨k, HR.bl M1 r1 e1, ?_⟩
  cases k with
  | true => exact po _ H1 G1 L1 (.g (.bl true)) s1 M1 (Rep.bl _) q
  | false => exact ok2 F lk G1 L1 σ H1 _ _ XQ M1 xl q fun v H2 G2 L2 a s2 M2 r2 q2 => po v H2 G2 L2 a (s1.trans s2) M2 r2 q2
theorem dx_not (h : DX X E a ua) : DX X E (.UnaryOp .Not a pos) (uNotV ua) := by
  obtain ⟨t, p, ok⟩ := h.ex
  refine ⟨_, pe_not p, fun F lk G L σ H Q QD XQ M xl hu po => ?_⟩
  refine ok F lk G L σ H _ _ XQ M xl hu fun x H1 G1 L1 aa s1 M1 r1 q1 => ?_
  obtain ⟨k, e1, q⟩ := q1
  exact ⟨k, HR.bl M1 r1 e1, po _ H1 G1 L1 (.g (.bl (!k))) s1 M1 (Rep.bl _) q⟩
theorem dx_ifExp {u : UT} (hc : DT X E c u) (ha : DX X E a ua) (hb : DX X E b ub) : DX X E (.IfExp c a b pos) (uIf u ua ub) := by
  obtain ⟨t, p, ok⟩ := hc.ex
  obtain ⟨t1, p1, ok1⟩ := ha.ex
  obtain ⟨t2, p2, ok2⟩ := hb.ex
  refine ⟨_, pe_ifExp p p1 p2, fun F lk G L σ H Q QD XQ M xl hu po => ?_⟩
  refine ok F lk G L σ H _ _ XQ M xl hu fun k H1 G1 L1 s1 M1 q1 => ?_
  cases k with
  | true => exact ok1 F lk G1 L1 σ H1 _ _ XQ M1 xl q1 fun v H2 G2 L2 a s2 M2 r2 q2 => po v H2 G2 L2 a (s1.trans s2) M2 r2 q2
  | false => exact ok2 F lk G1 L1 σ H1 _ _ XQ M1 xl q1 fun v H2 G2 L2 a s2 M2 r2 q2 => po v H2 G2 L2 a (s1.trans s2) M2 r2 q2
end

/-! operands in a row -/
def uNil : UA := fun _ L QD => QD L []
def uCons (u : UE) (w : UA) : UA := fun XQ L QD => u XQ L fun L' a => w XQ L' fun L'' as => QD L'' (a :: as)
section
variable {X : Cx} {E : XK} {e : Expr} {es : List Expr} {u : UE} {w : UA}
theorem da_nil : DA X E [] uNil := ⟨_, pa_nil, fun F lk G L σ H Q QD XQ M xl hu po => po [] H G L [] (.refl _) M .nil (fun _ z => nomatch z) hu⟩
theorem da_cons (he : DO X E e u) (hr : DA X E es w) (hs : starEach (e :: es) X.env = (false, eval e X.env) :: starEach es X.env := by rfl) : DA X E (e :: es) (uCons u w) := by
  obtain ⟨t, p, ok⟩ := he.ex
  obtain ⟨t2, p2, ok2⟩ := hr.ex
  refine ⟨_, pa_cons p p2 hs, fun F lk G L σ H Q QD XQ M xl hu po => ?_⟩
  refine ok F lk G L σ H _ _ XQ M xl hu fun x H1 G1 L1 aa s1 M1 r1 n1 q1 => ?_
  refine ok2 F lk G1 L1 σ H1 _ _ XQ M1 xl q1 fun vs H2 G2 L2 as s2 M2 r2 n2 q2 => ?_
  refine po (x :: vs) H2 G2 L2 (aa :: as) (s1.trans s2) M2 (.cons (r1.stay n1 s2) r2) (fun d z => ?_) q2
  rcases List.mem_cons.mp z with z | z
  · exact n1 d z.symm
  · exact n2 d z
/-- what escapes, as an operand -/
theorem do_g (h : DX X E e u) : DO X E e (fun XQ L QD => uG u XQ L fun L' d => QD L' (.g d)) := dx_of_g (dg_of h)
end

/-! calls of built-ins on data -/
def getAll (L : Env') : List A → Option (List D)
  | [] => some []
  | a :: as => match a.get L, getAll L as with
    | some d, some ds => some (d :: ds)
    | _, _ => none
def vgAll (L : Env') : List A → Option (List D)
  | [] => some []
  | a :: as => match a.vg L, vgAll L as with
    | some d, some ds => some (d :: ds)
    | _, _ => none
inductive Vws (K : PySem.W.Frag) (E H : Hp) : List V → List D → Prop
  | nil : Vws K E H [] []
  | cons {v d vs ds} : Vw K E H v d → Vws K E H vs ds → Vws K E H (v :: vs) (d :: ds)
def SOn (K : PySem.W.Frag) (r : List V → Hp → VK → Prop) (fn : List D → Option D) : Prop := ∀ (H : Hp) xs ds d, Reps K H xs ds → fn ds = some d → ∃ w, (∀ G, Rep K G w d) ∧ ∀ Q : VK, Q w H → r xs H Q
def FOn (K : PySem.W.Frag) (r : List V → Hp → VK → Prop) (fn : List D → Option D) : Prop := ∀ (E H : Hp) xs ds d, Tr K E H → Vws K E H xs ds → fn ds = some d → ∀ Q : VK, (∀ p o, H p = none → Own K E (upd H p o) p d → Q (.ref p) (upd H p o)) → r xs H Q
/-- its results told by a relation -/
def FOr (K : PySem.W.Frag) (r : List V → Hp → VK → Prop) (fn : List D → (D → Prop) → Prop) : Prop := ∀ (E H : Hp) xs ds (P : D → Prop), Tr K E H → Vws K E H xs ds → fn ds P → ∀ Q : VK, (∀ p o d, H p = none → Own K E (upd H p o) p d → P d → Q (.ref p) (upd H p o)) → r xs H Q
def uSn (fn : List D → Option D) (w : UA) : UE := fun XQ L QD => w XQ L fun L' as => ∃ ds d, getAll L' as = some ds ∧ fn ds = some d ∧ QD L' (.g d)
def uFn (fn : List D → Option D) (w : UA) : UE := fun XQ L QD => w XQ L fun L' as => ∃ ds d, vgAll L' as = some ds ∧ fn ds = some d ∧ QD L' (.f d)
def uFr (fn : List D → (D → Prop) → Prop) (w : UA) : UE := fun XQ L QD => w XQ L fun L' as => ∃ ds, vgAll L' as = some ds ∧ fn ds fun d => QD L' (.f d)
section
variable {K : PySem.W.Frag} {F : FB} {lk : Lk} {G : Hp} {L : Env'} {σ : St} {H : Hp}
theorem Mem.reps (M : Mem K F lk G L σ H) : ∀ {vs as ds}, HRs K F lk G L σ H vs as → getAll L as = some ds → Reps K H vs ds
  | _, _, _, .nil, e => by cases e; exact .nil
  | _, _, _, .cons r t, e => by
    unfold getAll at e
    split at e
    · rename_i d ds' e1 e2
      cases e
      exact .cons (M.rep r e1) (M.reps t e2)
    · cases e
theorem Mem.vws (M : Mem K F lk G L σ H) : ∀ {vs as ds}, HRs K F lk G L σ H vs as → vgAll L as = some ds → Vws K G H vs ds
  | _, _, _, .nil, e => by cases e; exact .nil
  | _, _, _, .cons r t, e => by
    unfold vgAll at e
    split at e
    · rename_i d ds' e1 e2
      cases e
      exact .cons (M.vwG r e1) (M.vws t e2)
    · cases e
end
section
variable {X : Cx} {E : XK} {e : Expr} {es : List Expr} {w : UA} {r : List V → Hp → VK → Prop} {pos p : Pos} {x : Str} {id T : String}
theorem dx_n {e' : Expr} {r' : TA → TE} (pe : ∀ {t}, PA X es t → PE X e' (r' t)) (hr' : ∀ t, r' t = fun σ H Q => t σ H fun vs H1 => r vs H1 Q) (ha : DA X E es w) {u : UE} {k : Env' → List A → (Env' → A → Prop) → Prop} (hu' : u = fun XQ L QD => w XQ L fun L' as => k L' as QD)
    (hk : ∀ F lk G L σ H vs as QD (Q : VK), Mem X.K F lk G L σ H → HRs X.K F lk G L σ H vs as → k L as QD → Post X.K F lk G σ QD Q → r vs H Q) : DX X E e' u := by
  obtain ⟨t, p, ok⟩ := ha.ex
  subst hu'
  refine ⟨_, pe p, fun F lk G L σ H Q QD XQ M xl hu po => ?_⟩
  rw [hr']
  refine ok F lk G L σ H _ _ XQ M xl hu fun vs H1 G1 L1 as s1 M1 r1 n1 q1 => ?_
  exact hk F lk G1 L1 σ H1 vs as QD Q M1 r1 q1 fun v H' G' L' a s M' r q => po v H' G' L' a (s1.trans s) M' r q
theorem kSn {fn : List D → Option D} (h : SOn X.K r fn) : ∀ F lk G L σ H vs as QD (Q : VK), Mem X.K F lk G L σ H → HRs X.K F lk G L σ H vs as → (∃ ds d, getAll L as = some ds ∧ fn ds = some d ∧ QD L (.g d)) → Post X.K F lk G σ QD Q → r vs H Q := by
  intro F lk G L σ H vs as QD Q M rs ⟨ds, d, e1, e2, q⟩ po
  obtain ⟨w, rw', k⟩ := h H vs ds d (M.reps rs e1) e2
  exact k Q (po w H G L (.g d) (.refl _) M (rw' G) q)
theorem kFr {fn : List D → (D → Prop) → Prop} (h : FOr X.K r fn) : ∀ F lk G L σ H vs as QD (Q : VK), Mem X.K F lk G L σ H → HRs X.K F lk G L σ H vs as → (∃ ds, vgAll L as = some ds ∧ fn ds fun d => QD L (.f d)) → Post X.K F lk G σ QD Q → r vs H Q := by
  intro F lk G L σ H vs as QD Q M rs ⟨ds, e1, q⟩ po
  refine h G H vs ds _ M.trG (M.vws rs e1) q Q fun p o d hp ow q => ?_
  obtain ⟨M', h'⟩ := M.made hp ow
  exact po _ _ G L (.f d) (.refl _) M' h' q
theorem kFn {fn : List D → Option D} (h : FOn X.K r fn) : ∀ F lk G L σ H vs as QD (Q : VK), Mem X.K F lk G L σ H → HRs X.K F lk G L σ H vs as → (∃ ds d, vgAll L as = some ds ∧ fn ds = some d ∧ QD L (.f d)) → Post X.K F lk G σ QD Q → r vs H Q := by
  intro F lk G L σ H vs as QD Q M rs ⟨ds, d, e1, e2, q⟩ po
  refine h G H vs ds d M.trG (M.vws rs e1) e2 Q fun p o hp ow => ?_
  obtain ⟨M', h'⟩ := M.made hp ow
  exact po _ _ G L (.f d) (.refl _) M' h' q
theorem dx_cbS {e' : Expr} {fn : List D → Option D} (pe : ∀ {t}, PA X es t → PE X e' (tCB r t)) (hs : SOn X.K r fn) (ha : DA X E es w) : DX X E e' (uSn fn w) := dx_n (fun pa => pe pa) (fun t => rfl) ha rfl (kSn hs)
theorem dx_cbF {e' : Expr} {fn : List D → Option D} (pe : ∀ {t}, PA X es t → PE X e' (tCB r t)) (hs : FOn X.K r fn) (ha : DA X E es w) : DX X E e' (uFn fn w) := dx_n (fun pa => pe pa) (fun t => rfl) ha rfl (kFn hs)
theorem dx_cbR {e' : Expr} {fn : List D → (D → Prop) → Prop} (pe : ∀ {t}, PA X es t → PE X e' (tCB r t)) (hs : FOr X.K r fn) (ha : DA X E es w) : DX X E e' (uFr fn w) := dx_n (fun pa => pe pa) (fun t => rfl) ha rfl (kFr hs)
/-! displays -/
def allG : List A → Option (List D)
  | [] => some []
  | .g d :: as => (allG as).map (d :: ·)
  | .b d :: as => if d.flat then (allG as).map (d :: ·) else none
  | _ => none
theorem HRs.allG {K : PySem.W.Frag} {F : FB} {lk : Lk} {G : Hp} {L : Env'} {σ : St} {H : Hp} : ∀ {vs as ds}, HRs K F lk G L σ H vs as → QD.allG as = some ds → Reps K G vs ds
  | _, _, _, .nil, e => by cases e; exact .nil
  | _, _, _, .cons (a := .g d) r t, e => by
    have e : (QD.allG _).map (d :: ·) = some _ := e
    cases q : QD.allG _ with
    | none => rw [q] at e; cases e
    | some ds => rw [q] at e; cases e; exact .cons r (t.allG q)
  | _, _, _, .cons (a := .b d) r t, e => by
    have e : (if d.flat = true then (QD.allG _).map (d :: ·) else none) = some _ := e
    by_cases hf : d.flat = true
    · rw [if_pos hf] at e
      cases q : QD.allG _ with
      | none => rw [q] at e; cases e
      | some ds => rw [q] at e; cases e; exact .cons (Rep.flat (show Rep K F.B _ d from r) hf) (t.allG q)
    · rw [if_neg hf] at e; cases e
  | _, _, _, .cons (a := .sl _) r t, e => by cases e
  | _, _, _, .cons (a := .f _) r t, e => by cases e
theorem Reps.len {K : PySem.W.Frag} {G : Hp} : ∀ {vs ds}, Reps K G vs ds → vs.length = ds.length
  | _, _, .nil => rfl
  | _, _, .cons _ t => by simp [t.len]
def uLst (w : UA) : UE := fun XQ L QD => w XQ L fun L' as => ∃ ds, allG as = some ds ∧ ds.length ≤ sizeLine ∧ QD L' (.f (.lst ds))
def uTup (w : UA) : UE := fun XQ L QD => w XQ L fun L' as => ∃ ds, allG as = some ds ∧ ds.length ≤ sizeLine ∧ QD L' (.g (.tup ds))
theorem dx_lst (ha : DA X E es w) : DX X E (.List es pos) (uLst w) := by
  obtain ⟨t, p, ok⟩ := ha.ex
  refine ⟨_, pe_lst p, fun F lk G L σ H Q QD XQ M xl hu po => ?_⟩
  refine ok F lk G L σ H _ _ XQ M xl hu fun vs H1 G1 L1 as s1 M1 r1 n1 q1 => ?_
  obtain ⟨ds, e1, hl, q⟩ := q1
  have rs := r1.allG e1
  refine ⟨by rw [rs.len]; exact hl, fun p hp => ?_⟩
  obtain ⟨M', h'⟩ := M1.made (d := .lst ds) hp ⟨vs, upd_same, rs⟩
  exact po _ _ G1 L1 (.f (.lst ds)) s1 M' h' q
theorem Mem.madeG {K : PySem.W.Frag} {F : FB} {lk : Lk} {G : Hp} {L : Env'} {σ : St} {H : Hp} (M : Mem K F lk G L σ H) {p : Addr} {o : HO} (hp : H p = none) :
    Mem K F lk (upd G p o) L σ (upd H p o) ∧ Same G (upd G p o) := by
  refine ⟨(M.grow (same_upd hp)).share upd_same (M.gnone hp) (M.bnone hp).2 (M.lknone hp) (M.dom p hp) fun i c d' h1 h2 h3 => ?_, same_upd (M.gnone hp)⟩
  obtain ⟨v, e, r⟩ := M.sl i c h1
  rw [h3] at e; cases e
  obtain ⟨a, e, ow'⟩ := r.own_of h2
  cases e
  obtain ⟨u, hu⟩ := ow'.some_of
  rw [hp] at hu; cases hu
theorem dx_tup {k : Nat} (ha : DA X E es w) : DX X E (.Tuple es k pos) (uTup w) := by
  obtain ⟨t, p, ok⟩ := ha.ex
  refine ⟨_, pe_tup p, fun F lk G L σ H Q QD XQ M xl hu po => ?_⟩
  refine ok F lk G L σ H _ _ XQ M xl hu fun vs H1 G1 L1 as s1 M1 r1 n1 q1 => ?_
  obtain ⟨ds, e1, hl, q⟩ := q1
  have rs := r1.allG e1
  refine ⟨by rw [rs.len]; exact hl, fun p hp => ?_⟩
  obtain ⟨M', s'⟩ := M1.madeG (o := .tup vs) hp
  exact po _ _ _ L1 (.g (.tup ds)) (s1.trans s') M' (.tup (.of upd_same) (rs.tr (Tr.same s'))) q
end
end QD

set_option Elab.async false
set_option linter.all false
set_option maxRecDepth 100000
set_option maxHeartbeats 4000000
namespace QD
open PySem PySem.Spec L2 PyProof.Rows
def RR (K : PySem.W.Frag) (F : FB) (G H : Hp) (v : V) : R → Prop
  | .s d => Rep K G v d
  | .o d => ∃ p, v = .ref p ∧ Own K G H p d ∧ G p = none ∧ F.H0 p = none ∧ F.nk p
structure Lnk (K : PySem.W.Frag) (F : FB) (lk : Lk) (G : Hp) (Dn : Ends) (DD : ED) : Prop where
  nx : ∀ G' L' σ' H', Same G G' → Mem K F lk G' L' σ' H' → DD.nx L' → Dn.nx σ' H'
  bk : ∀ G' L' σ' H', Same G G' → Mem K F lk G' L' σ' H' → DD.bk L' → Dn.bk σ' H'
  ct : ∀ G' L' σ' H', Same G G' → Mem K F lk G' L' σ' H' → DD.ct L' → Dn.ct σ' H'
  rt : ∀ v G' L' σ' H' r, Same G G' → Mem K F lk G' L' σ' H' → RR K F G' H' v r → DD.rt L' r → Dn.rt v H'
theorem Lnk.mono {K : PySem.W.Frag} {F : FB} {lk : Lk} {G G1 : Hp} {Dn : Ends} {DD : ED} (l : Lnk K F lk G Dn DD) (s : Same G G1) : Lnk K F lk G1 Dn DD :=
  ⟨fun _ _ _ _ t => l.nx _ _ _ _ (s.trans t), fun _ _ _ _ t => l.bk _ _ _ _ (s.trans t), fun _ _ _ _ t => l.ct _ _ _ _ (s.trans t), fun _ _ _ _ _ _ t => l.rt _ _ _ _ _ _ (s.trans t)⟩
structure DS (X : Cx) (E : XK) (st : Stmt) (u : US) : Prop where
  ex : ∃ t, PS X st t ∧ ∀ F lk G L σ H Dn DD XQ, Mem X.K F lk G L σ H → XLk X.K F lk E XQ → u XQ DD L → Lnk X.K F lk G Dn DD → t Dn σ H
structure DSs (X : Cx) (E : XK) (st : List Stmt) (u : US) : Prop where
  ex : ∃ t, PSs X st t ∧ ∀ F lk G L σ H Dn DD XQ, Mem X.K F lk G L σ H → XLk X.K F lk E XQ → u XQ DD L → Lnk X.K F lk G Dn DD → t Dn σ H
def uNext : US := fun _ DD L => DD.nx L
def uSeq (u w : US) : US := fun XQ DD L => u XQ { DD with nx := fun L' => w XQ DD L' } L
def uIfS (c : UT) (u w : US) : US := fun XQ DD L => c XQ L fun L' b => if b = true then u XQ DD L' else w XQ DD L'
def uExpr (u : UE) : US := fun XQ DD L => u XQ L fun L' _ => DD.nx L'
def uRetN : US := fun _ DD L => DD.rt L (.s .non)
def retA (L : Env') (Q : R → Prop) : A → Prop
  | .g d => Q (.s d)
  | .f d => Q (.o d)
  | .b d => d.flat = true ∧ Q (.s d)
  | .sl i => match L[i]? with
    | some (some (.o d)) => Q (.o d)
    | _ => False
def uRet (u : UE) : US := fun XQ DD L => u XQ L fun L' a => retA L' (DD.rt L') a
def uNever : US := fun _ _ _ => False
def uBreak : US := fun _ DD L => DD.bk L
def uCont : US := fun _ DD L => DD.ct L
def notP (L : Env') (i : Nat) : Bool := match L[i]? with
  | some (some (.p _)) => false
  | _ => true
def setA (L : Env') (i : Nat) (Q : Env' → Prop) : A → Prop
  | .g d => Q (L.set i (some (.g d)))
  | .b d => Q (L.set i (some (.b d)))
  | .f d => Q (L.set i (some (.o d)))
  | .sl j => match L[j]? with
    | some (some (.o d)) => Q ((L.set j none).set i (some (.o d)))
    | _ => False
def uSet (i : Nat) (u : UE) : US := fun XQ DD L => u XQ L fun L' a => notP L' i = true ∧ setA L' i DD.nx a

section
variable {K : PySem.W.Frag} {F : FB} {lk : Lk} {G : Hp} {L : Env'} {σ : St} {H : Hp} {v : V}
theorem set_back {i : Nat} {c : C} {j : Nat} {c' : C} (h : (L.set i (some c))[j]? = some (some c')) : (j = i ∧ c' = c) ∨ (j ≠ i ∧ L[j]? = some (some c')) := by
  by_cases hj : j = i
  · subst hj
    rw [List.getElem?_set] at h
    split at h
    · split at h
      · cases h; exact .inl ⟨rfl, rfl⟩
      · cases h
    · exact absurd rfl ‹_›
  · rw [List.getElem?_set_ne (Ne.symm hj)] at h
    exact .inr ⟨hj, h⟩
/-- a slot is given a value -/
theorem Mem.set (M : Mem K F lk G L σ H) {i : Nat} {c : C} (hn : notP L i = true) (hc : CR K F.B G H v c) (np : ∀ d, c ≠ .p d)
    (hO : ∀ d a, c.own = some d → v = .ref a → G a = none ∧ F.nk a ∧ lk a = none ∧ F.H0 a = none ∧ ∀ (j : Nat) c' d', j ≠ i → L[j]? = some (some c') → c'.own = some d' → σ[j]? ≠ some (some (.ref a))) :
    Mem K F lk G (L.set i (some c)) (σ.set i (some v)) H := by
  have hlen := M.len
  have at_i : ∀ c', (L.set i (some c))[i]? = some (some c') → (σ.set i (some v))[i]? = some (some v) := fun c' h => by
    have hi : i < L.length := by
      have := (List.getElem?_eq_some_iff.mp h).1
      rwa [List.length_set] at this
    exact List.getElem?_set_self (by omega)
  have ne : ∀ (j : Nat), j ≠ i → (σ.set i (some v))[j]? = σ[j]? := fun j hj => List.getElem?_set_ne (Ne.symm hj)
  refine ⟨M.g0, M.gH, M.bH, M.kH, M.dom, M.new, M.lkD, fun j c' h => ?_, fun j c' d a q1 q2 q3 => ?_, fun j d a q1 q2 => ?_, fun j k c1 c2 d1 d2 a q1 q2 q3 q4 q5 q6 => ?_, fun q hq => ?_, by rw [List.length_set, List.length_set]; exact hlen, M.kn⟩
  · rcases set_back h with ⟨rfl, rfl⟩ | ⟨hj, h'⟩
    · exact ⟨v, at_i _ h, hc⟩
    · rw [ne j hj]
      exact M.sl j c' h'
  · rcases set_back q1 with ⟨rfl, rfl⟩ | ⟨hj, h'⟩
    · rw [at_i _ q1] at q3
      cases q3
      obtain ⟨z1, z2, z3, _⟩ := hO d a q2 rfl
      exact ⟨z1, z2, z3⟩
    · rw [ne j hj] at q3
      exact M.own j c' d a h' q2 q3
  · rcases set_back q1 with ⟨rfl, z⟩ | ⟨hj, h'⟩
    · rw [at_i _ q1] at q2
      cases q2
      exact (hO d a (by rw [← z]; rfl) rfl).2.2.2.1
    · rw [ne j hj] at q2
      exact M.ownO j d a h' q2
  · rcases set_back q1 with ⟨rfl, rfl⟩ | ⟨hj, h1⟩
    · rcases set_back q3 with ⟨rfl, rfl⟩ | ⟨hk, h2⟩
      · rfl
      · rw [at_i _ q1] at q5; cases q5
        rw [ne k hk] at q6
        exact absurd q6 ((hO d1 a q2 rfl).2.2.2.2 k c2 d2 hk h2 q4)
    · rcases set_back q3 with ⟨rfl, rfl⟩ | ⟨hk, h2⟩
      · rw [at_i _ q3] at q6; cases q6
        rw [ne j hj] at q5
        exact absurd q5 ((hO d2 a q4 rfl).2.2.2.2 j c1 d1 hj h1 q2)
      · rw [ne j hj] at q5
        rw [ne k hk] at q6
        exact M.inj j k c1 c2 d1 d2 a h1 q2 h2 q4 q5 q6
  · obtain ⟨z1, d, z2⟩ := M.par q hq
    have : q.1 ≠ i := fun z => by
      rw [z] at z2
      unfold notP at hn
      rw [z2] at hn
      cases hn
    rw [ne _ this, List.getElem?_set_ne (Ne.symm this)]
    exact ⟨z1, d, z2⟩
/-- a slot is forgotten -/
theorem Mem.forget (M : Mem K F lk G L σ H) {i : Nat} (hn : notP L i = true) : Mem K F lk G (L.set i none) σ H := by
  have back : ∀ {j : Nat} {c : C}, (L.set i none)[j]? = some (some c) → j ≠ i ∧ L[j]? = some (some c) := fun {j c} h => by
    by_cases hj : j = i
    · subst hj
      rw [List.getElem?_set] at h
      split at h
      · split at h
        · cases h
        · cases h
      · exact absurd rfl ‹_›
    · rw [List.getElem?_set_ne (Ne.symm hj)] at h
      exact ⟨hj, h⟩
  refine ⟨M.g0, M.gH, M.bH, M.kH, M.dom, M.new, M.lkD, fun j c' h => M.sl j c' (back h).2, fun j c' d a q1 q2 q3 => M.own j c' d a (back q1).2 q2 q3, fun j d a q1 q2 => M.ownO j d a (back q1).2 q2,
    fun j k c1 c2 d1 d2 a q1 q2 q3 q4 q5 q6 => M.inj j k c1 c2 d1 d2 a (back q1).2 q2 (back q3).2 q4 q5 q6, fun q hq => ?_, by rw [List.length_set]; exact M.len, M.kn⟩
  obtain ⟨z1, d, z2⟩ := M.par q hq
  have : q.1 ≠ i := fun z => by
    rw [z] at z2
    unfold notP at hn
    rw [z2] at hn
    cases hn
  rw [List.getElem?_set_ne (Ne.symm this)]
  exact ⟨z1, d, z2⟩
theorem notP_forget {i j : Nat} (hn : notP L i = true) : notP (L.set j none) i = true := by
  by_cases hij : i = j
  · subst hij
    have e : (L.set i none)[i]? = if i < L.length then some none else none := by rw [List.getElem?_set]; simp
    unfold notP
    rw [e]
    by_cases hl : i < L.length
    · rw [if_pos hl]
    · rw [if_neg hl]
  · unfold notP at hn ⊢
    rw [List.getElem?_set_ne (Ne.symm hij)]; exact hn
/-- a slot takes what an expression gave -/
theorem Mem.setA (M : Mem K F lk G L σ H) {i : Nat} {a : A} {P : Env' → Prop} (hn : notP L i = true) (r : HR K F lk G L σ H v a) (h : setA L i P a) : ∃ L', Mem K F lk G L' (σ.set i (some v)) H ∧ P L' := by
  cases a with
  | g d => exact ⟨_, M.set (c := .g d) hn r (fun _ z => nomatch z) (fun _ _ z => nomatch z), h⟩
  | b d => exact ⟨_, M.set (c := .b d) hn r (fun _ z => nomatch z) (fun _ _ z => nomatch z), h⟩
  | f d =>
    obtain ⟨p, rfl, o, h1, h2, h3, h4, h5⟩ := r
    refine ⟨_, M.set (c := .o d) hn ⟨p, rfl, o⟩ (fun _ z => nomatch z) (fun d' a e1 e2 => ?_), h⟩
    cases e2
    exact ⟨h1, h2, h3, h4, fun j c' d' _ q1 q2 => h5 j c' d' q1 q2⟩
  | sl j =>
    have h : (match L[j]? with | some (some (C.o d)) => P ((L.set j none).set i (some (.o d))) | _ => False) := h
    split at h
    · rename_i d hj
      have hv : σ[j]? = some (some v) := r
      obtain ⟨v', e, p, rfl, o⟩ := M.sl j _ hj
      rw [hv] at e
      obtain rfl : v = .ref p := Option.some.inj (Option.some.inj e)
      have nj : notP L j = true := by unfold notP; rw [hj]
      have Mf := M.forget nj
      have hn' : notP (L.set j none) i = true := notP_forget hn
      refine ⟨_, Mf.set (c := .o d) hn' ⟨p, rfl, o⟩ (fun _ z => nomatch z) (fun d' a e1 e2 => ?_), h⟩
      cases e2
      obtain ⟨h1, h2, h3⟩ := M.own j _ d p hj rfl hv
      refine ⟨h1, h2, h3, M.ownO j d p hj hv, fun k c' d'' hk q1 q2 q3 => ?_⟩
      by_cases hkj : k = j
      · subst hkj
        rw [List.getElem?_set] at q1
        split at q1
        · split at q1 <;> cases q1
        · rename_i q; exact q rfl
      · rw [List.getElem?_set_ne (Ne.symm hkj)] at q1
        exact hkj (M.inj k j c' _ d'' d p q1 q2 hj rfl q3 hv)
    · exact h.elim
end

section
variable {X : Cx} {E : XK} {st : Stmt} {rest body : List Stmt} {e c : Expr} {u : UE} {u1 u2 : US} {pos pos' : Pos}
theorem dss_nil : DSs X E [] uNext := ⟨_, pss_nil, fun F lk G L σ H Dn DD XQ M xl hu l => l.nx G L σ H (.refl _) M hu⟩
theorem dss_cons (h1 : DS X E st u1) (h2 : DSs X E rest u2) : DSs X E (st :: rest) (uSeq u1 u2) := by
  obtain ⟨t, p, ok⟩ := h1.ex
  obtain ⟨t2, p2, ok2⟩ := h2.ex
  refine ⟨_, pss_cons p p2, fun F lk G L σ H Dn DD XQ M xl hu l => ?_⟩
  exact ok F lk G L σ H _ _ XQ M xl hu ⟨fun G' L' σ' H' s M' q => ok2 F lk G' L' σ' H' Dn DD XQ M' xl q (l.mono s), l.bk, l.ct, l.rt⟩
theorem dss_one (h1 : DS X E st u1) : DSs X E [st] u1 := by
  obtain ⟨t, p, ok⟩ := h1.ex
  exact ⟨t, pss_one p, ok⟩
theorem ds_if {uc : UT} {a b : List Stmt} (hc : DT X E c uc) (ha : DSs X E a u1) (hb : DSs X E b u2) : DS X E (.If c a b pos) (uIfS uc u1 u2) := by
  obtain ⟨t, p, ok⟩ := hc.ex
  obtain ⟨t1, p1, ok1⟩ := ha.ex
  obtain ⟨t2, p2, ok2⟩ := hb.ex
  refine ⟨_, ps_if p p1 p2, fun F lk G L σ H Dn DD XQ M xl hu l => ?_⟩
  refine ok F lk G L σ H _ _ XQ M xl hu fun k H1 G1 L1 s1 M1 q1 => ?_
  cases k with
  | true => exact ok1 F lk G1 L1 σ H1 Dn DD XQ M1 xl q1 (l.mono s1)
  | false => exact ok2 F lk G1 L1 σ H1 Dn DD XQ M1 xl q1 (l.mono s1)
theorem ds_never : DS X E st uNever := ⟨_, ps_never, fun F lk G L σ H Dn DD XQ M xl hu l => hu.elim⟩
theorem dss_never : DSs X E rest uNever := ⟨_, pss_never, fun F lk G L σ H Dn DD XQ M xl hu l => hu.elim⟩
theorem ds_pass : DS X E (.Pass pos) uNext := ⟨_, ps_pass, fun F lk G L σ H Dn DD XQ M xl hu l => l.nx G L σ H (.refl _) M hu⟩
theorem ds_break : DS X E (.Break pos) uBreak := ⟨_, ps_break, fun F lk G L σ H Dn DD XQ M xl hu l => l.bk G L σ H (.refl _) M hu⟩
theorem ds_continue : DS X E (.Continue pos) uCont := ⟨_, ps_continue, fun F lk G L σ H Dn DD XQ M xl hu l => l.ct G L σ H (.refl _) M hu⟩
theorem ds_expr (h : DX X E e u) (hs : swapsWith e none pos.line X.env = pure false := by rfl) : DS X E (.Expr e pos) (uExpr u) := by
  obtain ⟨t, p, ok⟩ := h.ex
  refine ⟨_, ps_expr p hs, fun F lk G L σ H Dn DD XQ M xl hu l => ?_⟩
  exact ok F lk G L σ H _ _ XQ M xl hu fun v H1 G1 L1 a s1 M1 r1 q1 => l.nx G1 L1 σ H1 s1 M1 q1
theorem ds_retN : DS X E (.Return none pos) uRetN := ⟨_, ps_retN, fun F lk G L σ H Dn DD XQ M xl hu l => l.rt .non G L σ H (.s .non) (.refl _) M .non hu⟩
theorem ds_ret (h : DX X E e u) : DS X E (.Return (some e) pos) (uRet u) := by
  obtain ⟨t, p, ok⟩ := h.ex
  refine ⟨_, ps_ret p, fun F lk G L σ H Dn DD XQ M xl hu l => ?_⟩
  refine ok F lk G L σ H _ _ XQ M xl hu fun v H1 G1 L1 a s1 M1 r1 q1 => ?_
  cases a with
  | g d => exact l.rt v G1 L1 σ H1 (.s d) s1 M1 r1 q1
  | f d =>
    obtain ⟨p, rfl, o, h1, h2, h3, h4, h5⟩ := r1
    exact l.rt _ G1 L1 σ H1 (.o d) s1 M1 ⟨p, rfl, o, h1, h4, h2⟩ q1
  | b d => exact l.rt v G1 L1 σ H1 (.s d) s1 M1 (Rep.flat (show Rep X.K F.B v d from r1) q1.1) q1.2
  | sl i =>
    have q1 : (match L1[i]? with | some (some (C.o d)) => DD.rt L1 (.o d) | _ => False) := q1
    split at q1
    · rename_i d hi
      have hv : σ[i]? = some (some v) := r1
      obtain ⟨v', e, p, rfl, o⟩ := M1.sl i _ hi
      rw [hv] at e
      obtain rfl : v = .ref p := Option.some.inj (Option.some.inj e)
      exact l.rt _ G1 L1 σ H1 (.o d) s1 M1 ⟨p, rfl, o, (M1.own i _ d p hi rfl hv).1, M1.ownO i d p hi hv, (M1.own i _ d p hi rfl hv).2.1⟩ q1
    · exact q1.elim
theorem ds_set' {i : Nat} {x : Str} (h : DX X E e u) (ps : ∀ {t}, PE X e t → PS X (.Assign [.Name x pos'] e pos) (tAsg t (gName i))) : DS X E (.Assign [.Name x pos'] e pos) (uSet i u) := by
  obtain ⟨t, p, ok⟩ := h.ex
  refine ⟨_, ps p, fun F lk G L σ H Dn DD XQ M xl hu l => ?_⟩
  refine ok F lk G L σ H _ _ XQ M xl hu fun v H1 G1 L1 a s1 M1 r1 q1 => ?_
  obtain ⟨L', M', q⟩ := M1.setA q1.1 r1 q1.2
  exact l.nx G1 L' _ H1 s1 M' q
theorem ds_set (i : Nat) {x : Str} (h : DX X E e u) (hN : X.N.Nodup) (hi : X.N[i]? = some x := by rfl) (hx : Loc X.env.scope x := by first | exact Or.inl rfl | exact Or.inr rfl) (hs : swapsWith e (some (.Name x pos')) pos.line X.env = pure false := by rfl)
    (hf : X.fn x = true ∨ X.env.scope.names.lookup x = some .local := by first | exact .inl rfl | exact .inr rfl | assumption) : DS X E (.Assign [.Name x pos'] e pos) (uSet i u) := ds_set' h fun p => ps_set hN hi hx p hs hf
end

/-! what a def promises -/
/-- how a parameter is handed: shared, or lent -/
inductive Md where
  | g | b
def modeC : Md → D → C
  | .g, d => .g d
  | .b, d => .b d
def ModeR (K : PySem.W.Frag) (G B : Hp) : Md → V → D → Prop
  | .g, v, d => Rep K G v d
  | .b, v, d => Rep K B v d
inductive Args (K : PySem.W.Frag) (G B : Hp) : List Md → List V → List D → Prop
  | nil : Args K G B [] [] []
  | cons {m ms v vs d ds} : ModeR K G B m v d → Args K G B ms vs ds → Args K G B (m :: ms) (v :: vs) (d :: ds)
abbrev TF := XP → List D → (R → Prop) → Prop
/-- its exceptions -/
def XOut (K : PySem.W.Frag) (G H : Hp) (E : XK) (XQ : XP) : Prop :=
  ∀ cls dx fs ds G' H', Same H H' → Same G G' → Same G' H' → (∀ a, G a = none → G' a ≠ none → H a = none) → H' dx = some (.xd fs) → H dx = none → RepF K G' fs ds → XQ (cls, ds) → E cls (some dx) H'
def SpD (K : PySem.W.Frag) (ms : List Md) (t : TF) : Sp := fun vs H Q E => ∃ (G : Hp) (ds : List D) (QD : R → Prop) (XQ : XP), Same G H ∧ Args K G H ms vs ds ∧ t XQ ds QD ∧ XOut K G H E XQ ∧
  ∀ v H' G' r, Same H H' → Same G G' → Same G' H' → (∀ a, G a = none → G' a ≠ none → H a = none) →
    (match r with | .s d => Rep K G' v d | .o d => ∃ p, v = .ref p ∧ Own K G' H' p d ∧ G' p = none ∧ H p = none) → QD r → Q v H'
def argL : List Md → List D → Env'
  | m :: ms, d :: ds => some (modeC m d) :: argL ms ds
  | _, _ => []
/-- the transformer of a def by that of its body; n slots more -/
def uDef (ms : List Md) (n : Nat) (u : US) : TF := fun XQ ds QD => u XQ { nx := fun _ => QD (.s .non), rt := fun _ r => QD r } (argL ms ds ++ List.replicate n none)
theorem Args.len {K : PySem.W.Frag} {G B : Hp} : ∀ {ms vs ds}, Args K G B ms vs ds → vs.length = ms.length
  | _, _, _, .nil => rfl
  | _, _, _, .cons _ t => by simp [t.len]
theorem argL_len {K : PySem.W.Frag} {G B : Hp} : ∀ {ms vs ds}, Args K G B ms vs ds → (argL ms ds).length = vs.length
  | _, _, _, .nil => rfl
  | _, _, _, .cons _ t => by simp [argL, argL_len t]
theorem argL_at {K : PySem.W.Frag} {G B : Hp} : ∀ {ms vs ds} {i : Nat} {c : C}, Args K G B ms vs ds → (argL ms ds)[i]? = some (some c) → ∃ v, vs[i]? = some v ∧ (∀ H, CR K B G H v c) ∧ c.own = none
  | _, _, _, i, c, .nil, h => by simp [argL] at h
  | _, _, _, 0, c, .cons (m := m) r t, h => by
    cases m with
    | g => simp [argL, modeC] at h; subst h; exact ⟨_, rfl, fun _ => r, rfl⟩
    | b => simp [argL, modeC] at h; subst h; exact ⟨_, rfl, fun _ => r, rfl⟩
  | _, _, _, i + 1, c, .cons r t, h => by
    obtain ⟨v, h1, h2⟩ := argL_at (i := i) (c := c) t (by simpa [argL] using h)
    exact ⟨v, by simpa using h1, h2⟩
/-- the memory at a def's entry -/
theorem mem_start {K : PySem.W.Frag} {ms vs ds} {G H : Hp} {N : List Str} (s : Same G H) (a : Args K G H ms vs ds) (hl : vs.length ≤ N.length) :
    Mem K ⟨H, G, H, [], fun _ => none⟩ lk0 G (argL ms ds ++ List.replicate (N.length - vs.length) none) (L2.start N vs) H := by
  have hlen := argL_len a
  have at_ : ∀ {i : Nat} {c : C}, (argL ms ds ++ List.replicate (N.length - vs.length) none)[i]? = some (some c) → (argL ms ds)[i]? = some (some c) := fun {i c} h => by
    by_cases hi : i < (argL ms ds).length
    · rwa [List.getElem?_append_left hi] at h
    · rw [List.getElem?_append_right (by omega), List.getElem?_replicate] at h
      split at h <;> cases h
  have no : ∀ {i : Nat} {c : C} {d : D}, (argL ms ds ++ List.replicate (N.length - vs.length) none)[i]? = some (some c) → c.own = some d → False := fun {i c d} h e => by
    obtain ⟨v, _, _, z⟩ := argL_at a (at_ h)
    rw [z] at e; cases e
  refine ⟨.refl _, s, .refl _, fun _ _ h => (by cases h), fun _ h => h, fun a h1 h2 => absurd h1 h2, fun _ _ h => (by cases h), fun i c h => ?_, fun i c d b h1 h2 _ => (no h1 h2).elim, fun i d b h1 _ => (no h1 rfl).elim, fun i j c c' d d' b h1 h2 _ _ _ _ => (no h1 h2).elim, fun p hp => (by cases hp), ?_, fun _ _ h => (by cases h)⟩
  · obtain ⟨v, h1, h2, _⟩ := argL_at a (at_ h)
    refine ⟨v, ?_, h2 H⟩
    unfold L2.start
    have hi : i < vs.length := (List.getElem?_eq_some_iff.mp h1).1
    rw [List.getElem?_append_left (by simpa using hi), List.getElem?_map, h1]
    rfl
  · unfold L2.start
    simp [hlen]
section
variable {P : Program} {w : World} {K : PySem.W.Frag} {mg : Str → Option Value} {base : Heap}
/-- a def of the text, with defaults or without -/
structure FunU (K : PySem.W.Frag) (qual : Str) (st : Stmt) (f : Addr) (fd : FuncData) : Prop where
  ok : ∀ {P : Program} {w : World} {mg : Str → Option Value} {base : Heap} {N ps : List Str} {k : Nat} {sp : Sp}, FnScope N ps (defScope st) → (∀ vs H Q E, sp vs H Q E → vs.length = ps.length) →
    (∀ (cdv : Value) (A : Around) (outer : List Env) (s : Shared) (H : Hp) (vs : List V) (Q : VK) (E : XK), Room k (A.deeper (envOfC qual (defScope st) s.heap.objs.size f cdv)) → sp vs H Q E →
      ∃ t, PSs (cxOf CX0 P w K mg base N qual (defScope st) f cdv A outer s H E).nox (defBody st) t ∧ t { nx := fun _ H' => Q .non H', rt := Q } (L2.start N vs) H) → FnOk P w K mg base CX0 (k + 1) f fd ps sp
theorem Fun.u {x qual : Str} {st : Stmt} {f : Addr} {fd : FuncData} (F : Fun K x qual st f fd) : FunU K qual st f fd := ⟨fun S len h => F.ok S len h⟩
/-- a def that no exception leaves -/
theorem fn_d {qual : Str} {st : Stmt} {f : Addr} {fd : FuncData} {N ps : List Str} {k : Nat} {ms : List Md} {u : US} (F : FunU K qual st f fd) (S : FnScope N ps (defScope st)) (hm : ms.length = ps.length) (n : Nat) (hn : N.length - ps.length = n)
    (hbody : ∀ (cdv : Value) (A : Around) (outer : List Env) (s : Shared) (H : Hp) (E : XK), Room k (A.deeper (envOfC qual (defScope st) s.heap.objs.size f cdv)) → DSs (cxOf CX0 P w K mg base N qual (defScope st) f cdv A outer s H E).nox E (defBody st) u) :
    FnOk P w K mg base CX0 (k + 1) f fd ps (SpD K ms (uDef ms n u)) := by
  refine F.ok S (fun vs H Q E h => ?_) (fun cdv A outer s H vs Q E hr h => ?_)
  · obtain ⟨G, ds, QD, XQ, _, a, _⟩ := h
    rw [a.len, hm]
  · obtain ⟨G, ds, QD, XQ, s0, a, ht, xo, k⟩ := h
    obtain ⟨t, p, ok⟩ := (hbody cdv A outer s H E hr).ex
    have hpl : ps.length ≤ N.length := by have := congrArg List.length S.pre; rw [List.length_take] at this; omega
    have hl : vs.length = ps.length := by rw [a.len, hm]
    refine ⟨t, p, ok ⟨H, G, H, [], fun _ => none⟩ lk0 G _ _ H _ { nx := fun _ => QD (.s .non), rt := fun _ r => QD r } XQ (mem_start s0 a (by omega)) ?_ (by
      have ht : u XQ { nx := fun _ => QD (.s .non), rt := fun _ r => QD r } (argL ms ds ++ List.replicate n none) := ht
      rw [← hn, ← hl] at ht
      exact ht) ?_⟩
    · refine ⟨.inl rfl, fun G' L' σ' H' cls dx fs ds' M h1 h2 h3 h4 => ?_⟩
      exact xo cls dx fs ds' G' H' (by have := M.bH; rwa [lkd0] at this) M.g0 (by have := M.gH; rwa [lkd0] at this) (fun b h1 h2 => M.new b h1 h2) h1 h2 h3 h4
    · exact ⟨fun G' L' σ' H' s M q => k .non H' G' (.s .non) (by have := M.bH; rwa [lkd0] at this) M.g0 (by have := M.gH; rwa [lkd0] at this) (fun b h1 h2 => M.new b h1 h2) .non q, fun _ _ _ _ _ _ q => q.elim, fun _ _ _ _ _ _ q => q.elim,
        fun v G' L' σ' H' r s M rr q => k v H' G' r (by have := M.bH; rwa [lkd0] at this) M.g0 (by have := M.gH; rwa [lkd0] at this) (fun b h1 h2 => M.new b h1 h2) (by
          cases r with
          | s d => exact rr
          | o d => obtain ⟨p, z1, z2, z3, z4, _⟩ := rr; exact ⟨p, z1, z2, z3, z4⟩) q⟩
end
end QD

set_option Elab.async false
set_option linter.all false
set_option maxRecDepth 100000
set_option maxHeartbeats 4000000
namespace QD
open PySem PySem.Spec L2 PyProof.Rows
def noX : XP := fun _ => False
section
variable {K : PySem.W.Frag} {F : FB} {lk : Lk} {G G2 : Hp} {L : Env'} {σ : St} {H H' : Hp} {v : V}
/-- what is shared grows -/
theorem Mem.wide (M : Mem K F lk G L σ H) (s : Same G G2) (h2 : Same (lkd lk G2) H)
    (hn : ∀ a, G a = none → G2 a ≠ none → F.H0 a = none ∧ F.Kp a = none ∧ lk a = none ∧ ∀ (i : Nat) c d', L[i]? = some (some c) → c.own = some d' → σ[i]? ≠ some (some (.ref a))) : Mem K F lk G2 L σ H where
  g0 := M.g0.trans s
  gH := h2
  bH := M.bH
  kH := M.kH
  dom := M.dom
  new := fun a h1 h2 => by
    by_cases q : G a = none
    · exact (hn a q h2).1
    · exact M.new a h1 q
  lkD := fun a ob h => by
    obtain ⟨kvs, h1, h2, h3⟩ := M.lkD a ob h
    refine ⟨kvs, h1, fun o' e => ?_, h3⟩
    cases q : G a with
    | none =>
      have := (hn a q (by rw [e]; simp)).2.2.1
      rw [h] at this; cases this
    | some o =>
      have := s a o q
      rw [e] at this; cases this
      exact h2 o' q
  sl := fun i c h => by
    obtain ⟨v, e, r⟩ := M.sl i c h
    refine ⟨v, e, ?_⟩
    have T : Tr K G G2 := Tr.same s
    cases c with
    | g d => exact Rep.tr T r
    | b d => exact r
    | o d => obtain ⟨a, rfl, q⟩ := r; exact ⟨a, rfl, q.mono T rfl⟩
    | p d => obtain ⟨a, rfl, q⟩ := r; exact ⟨a, rfl, q.mono T rfl⟩
  own := fun i c d a h1 h2 h3 => by
    obtain ⟨q1, q2⟩ := M.own i c d a h1 h2 h3
    refine ⟨?_, q2⟩
    cases q : G2 a with
    | none => rfl
    | some o => exact absurd h3 ((hn a q1 (by rw [q]; simp)).2.2.2 i c d h1 h2)
  ownO := M.ownO
  inj := M.inj
  par := M.par
  len := M.len
  kn := fun a u e => by
    obtain ⟨z1, z2⟩ := M.kn a u e
    refine ⟨?_, z2⟩
    cases q : G2 a with
    | none => rfl
    | some o =>
      have := (hn a z1 (by rw [q]; simp)).2.1
      rw [e] at this; cases this
def C.put : C → D → C
  | .o _, d => .o d
  | .p _, d => .p d
  | c, _ => c
def putO (L : Env') (i : Nat) (d : D) : Env' := match L[i]? with
  | some (some c) => L.set i (some (c.put d))
  | _ => L
/-- an own container is changed -/
theorem Mem.write (M : Mem K F lk G L σ H) {i : Nat} {d0 d : D} {r : Addr} (h : ownAt L i = some d0) (hv : σ[i]? = some (some (.ref r))) (hs : ∀ b o, b ≠ r → H b = some o → H' b = some o) (ow : Own K G H' r d) :
    Mem K F lk G (putO L i d) σ H' := by
  obtain ⟨c, hc, hd⟩ := ownAt_some h
  have ep : putO L i d = L.set i (some (c.put d)) := by unfold putO; rw [hc]
  rw [ep]
  obtain ⟨m1, m2, m3⟩ := M.own i c d0 r hc hd hv
  have hil : i < L.length := (List.getElem?_eq_some_iff.mp hc).1
  obtain ⟨u, hu⟩ := ow.some_of
  have cp : (c.put d).own = some d := by cases c <;> first | rfl | cases hd
  have there : ∀ b o, H b = some o → ∃ o', H' b = some o' := fun b o e => by
    by_cases hb : b = r
    · exact ⟨u, hb ▸ hu⟩
    · exact ⟨o, hs b o hb e⟩
  have old : ∀ {j : Nat} {c' : C} {d' : D}, (L.set i (some (c.put d)))[j]? = some (some c') → c'.own = some d' → ∃ c2 d2, L[j]? = some (some c2) ∧ c2.own = some d2 := fun {j c' d'} q e => by
    rcases set_back q with ⟨rfl, rfl⟩ | ⟨_, q⟩
    · exact ⟨c, d0, hc, hd⟩
    · exact ⟨c', d', q, e⟩
  refine ⟨M.g0, fun b o e => ?_, fun b o e => ?_, fun b o e => hs b o (fun z => by rw [z, m2.2] at e; cases e) (M.kH b o e), fun b e => ?_, M.new, fun b ob e => ?_, fun j c' q => ?_, fun j c' d' a q1 q2 q3 => ?_, fun j d' a q1 q2 => ?_, fun j k c1 c2 d1 d2 a q1 q2 q3 q4 q5 q6 => ?_, fun q hq => ?_, by rw [List.length_set]; exact M.len, M.kn⟩
  · refine hs b o (fun z => ?_) (M.gH b o e)
    subst z
    unfold lkd at e
    rw [m3, m1] at e; cases e
  · refine hs b o (fun z => ?_) (M.bH b o e)
    subst z
    unfold lkd at e
    rw [m3, m2.1] at e; cases e
  · refine M.dom b ?_
    cases q : H b with
    | none => rfl
    | some o =>
      obtain ⟨o', e'⟩ := there b o q
      rw [e] at e'; cases e'
  · obtain ⟨kvs, h1, h2⟩ := M.lkD b ob e
    exact ⟨kvs, hs b _ (fun z => by rw [z, m3] at e; cases e) h1, h2⟩
  · rcases set_back q with ⟨rfl, rfl⟩ | ⟨hj, q⟩
    · exact ⟨.ref r, hv, CR.mk_own cp ow⟩
    · obtain ⟨v, e, rr⟩ := M.sl j c' q
      refine ⟨v, e, ?_⟩
      have keepO : ∀ {a : Addr} {x : D}, v = .ref a → c'.own = some x → Own K G H a x → Own K G H' a x := fun {a x} ev eo o => by
        subst ev
        obtain ⟨w, hw⟩ := o.some_of
        exact o.mono .refl ((hs a w (fun z => hj (M.inj j i c' c x d0 a q eo hc hd e (by rw [z]; exact hv))) hw).trans hw.symm)
      cases c' with
      | g x => exact rr
      | b x => exact rr
      | o x => obtain ⟨a, e1, o⟩ := rr; exact ⟨a, e1, keepO e1 rfl o⟩
      | p x => obtain ⟨a, e1, o⟩ := rr; exact ⟨a, e1, keepO e1 rfl o⟩
  · obtain ⟨c2, d2, z1, z2⟩ := old q1 q2
    exact M.own j c2 d2 a z1 z2 q3
  · rcases set_back q1 with ⟨rfl, z⟩ | ⟨hj, q⟩
    · cases c with
      | o x => exact M.ownO j x a hc q2
      | p x => cases z
      | g x => cases hd
      | b x => cases hd
    · exact M.ownO j d' a q q2
  · obtain ⟨c3, d3, z1, z2⟩ := old q1 q2
    obtain ⟨c4, d4, z3, z4⟩ := old q3 q4
    exact M.inj j k c3 c4 d3 d4 a z1 z2 z3 z4 q5 q6
  · obtain ⟨z1, x, z2⟩ := M.par q hq
    refine ⟨z1, ?_⟩
    by_cases hqi : q.1 = i
    · rw [hqi] at z2 ⊢
      rw [hc] at z2
      cases z2
      exact ⟨d, List.getElem?_set_self hil⟩
    · exact ⟨x, by rw [List.getElem?_set_ne (Ne.symm hqi)]; exact z2⟩
theorem lkd_wide {Gc : Hp} (hk : ∀ a ob, lk a = some ob → G a = none → Gc a = none) (s : Same (lkd lk G) Gc) : lkd lk (fun a => match lk a with | some _ => G a | none => Gc a) = Gc := by
  funext a
  show (match lk a with | some ob => ((match lk a with | some _ => G a | none => Gc a)).map (HO.frz ob) | none => (match lk a with | some _ => G a | none => Gc a)) = Gc a
  cases e : lk a with
  | none => rfl
  | some ob =>
    show (G a).map (HO.frz ob) = Gc a
    cases q : G a with
    | none => rw [hk a ob e q]; rfl
    | some o =>
      have : lkd lk G a = some (.frz ob o) := by unfold lkd; rw [e]; show (G a).map _ = _; rw [q]; rfl
      rw [s a _ this]; rfl
/-- behind a call -/
theorem Mem.after (M : Mem K F lk G L σ H) {Gc : Hp} (s1 : Same H H') (s2 : Same (lkd lk G) Gc) (s3 : Same Gc H') (hn : ∀ a, lkd lk G a = none → Gc a ≠ none → H a = none) :
    ∃ G2, Same G G2 ∧ Mem K F lk G2 L σ H' ∧ lkd lk G2 = Gc ∧ (∀ p, H p = none → Gc p = none → G2 p = none) := by
  have hk : ∀ a ob, lk a = some ob → G a = none → Gc a = none := fun a ob e q => by
    cases z : Gc a with
    | none => rfl
    | some o =>
      have h1 : lkd lk G a = none := by unfold lkd; rw [e]; show (G a).map _ = none; rw [q]; rfl
      have h2 := hn a h1 (by rw [z]; simp)
      obtain ⟨kvs, h3, _⟩ := M.lkD a ob e
      rw [h2] at h3; cases h3
  have e := lkd_wide hk s2
  have sg : Same G (fun a => match lk a with | some _ => G a | none => Gc a) := fun a o q => by
    show (match lk a with | some _ => G a | none => Gc a) = some o
    cases z : lk a with
    | some ob => exact q
    | none => exact s2 a o (by unfold lkd; rw [z]; exact q)
  have new : ∀ a, G a = none → (match lk a with | some _ => G a | none => Gc a) ≠ none → H a = none ∧ lk a = none := fun a q z => by
    cases y : lk a with
    | some ob => rw [y] at z; exact absurd q z
    | none =>
      rw [y] at z
      exact ⟨hn a (by unfold lkd; rw [y]; exact q) z, rfl⟩
  refine ⟨_, sg, (M.grow s1).wide sg (by rw [e]; exact s3) fun a q z => ?_, e, fun p h1 h2 => ?_⟩
  · obtain ⟨h1, h2⟩ := new a q z
    refine ⟨M.dom a h1, (M.bnone h1).2, h2, fun i c d' q1 q2 q3 => ?_⟩
    obtain ⟨v, e, r⟩ := M.sl i c q1
    rw [q3] at e; cases e
    obtain ⟨b, e, ow⟩ := r.own_of q2
    cases e
    obtain ⟨u, hu⟩ := ow.some_of
    rw [h1] at hu; cases hu
  · show (match lk p with | some _ => G p | none => Gc p) = none
    cases y : lk p with
    | some ob => exact M.gnone h1
    | none => exact h2
end

/-! calls of the text's own defs -/
def rA : R → A
  | .s d => .g d
  | .o d => .f d
def argsOf (L : Env') : List Md → List A → Option (List D)
  | [], [] => some []
  | .g :: ms, .g d :: as => (argsOf L ms as).map (d :: ·)
  | .g :: ms, .b d :: as => if d.flat then (argsOf L ms as).map (d :: ·) else none
  | .b :: ms, a :: as => match a.get L, argsOf L ms as with
    | some d, some ds => some (d :: ds)
    | _, _ => none
  | _, _ => none
def uCall (ms : List Md) (t : TF) (dds : List D) (w : UA) : UE := fun XQ L QD => w XQ L fun L' as => ∃ ds, argsOf L' ms as = some ds ∧ t noX (ds ++ dds) fun r => QD L' (rA r)
section
variable {K : PySem.W.Frag} {F : FB} {lk : Lk} {G : Hp} {L : Env'} {σ : St} {H : Hp}
theorem Mem.args (M : Mem K F lk G L σ H) : ∀ {ms vs as ds}, HRs K F lk G L σ H vs as → argsOf L ms as = some ds → Args K (lkd lk G) H ms vs ds
  | [], _, _, _, .nil, e => by cases e; exact .nil
  | _ :: _, _, _, _, .nil, e => by simp [argsOf] at e
  | [], _, _, _, .cons _ _, e => by simp [argsOf] at e
  | .b :: ms, _, _, _, .cons (a := a) r t, e => by
    unfold argsOf at e
    split at e
    · rename_i d ds' e1 e2
      cases e
      exact .cons (m := .b) (M.rep r e1) (M.args t e2)
    · cases e
  | .g :: ms, _, _, _, .cons (a := .g d) r t, e => by
    have e : (argsOf L ms _).map (d :: ·) = some _ := e
    cases q : argsOf L ms _ with
    | none => rw [q] at e; cases e
    | some ds => rw [q] at e; cases e; exact .cons (m := .g) (Rep.tr (Tr.lock M.okG) r) (M.args t q)
  | .g :: ms, _, _, _, .cons (a := .b d) r t, e => by
    have e : (if d.flat = true then (argsOf L ms _).map (d :: ·) else none) = some _ := e
    by_cases hf : d.flat = true
    · rw [if_pos hf] at e
      cases q : argsOf L ms _ with
      | none => rw [q] at e; cases e
      | some ds => rw [q] at e; cases e; exact .cons (m := .g) (Rep.flat (show Rep K F.B _ d from r) hf) (M.args t q)
    · rw [if_neg hf] at e; cases e
  | .g :: ms, _, _, _, .cons (a := .sl _) r t, e => by simp [argsOf] at e
  | .g :: ms, _, _, _, .cons (a := .f _) r t, e => by simp [argsOf] at e
theorem Args.app {G B : Hp} : ∀ {ms ms' vs vs' ds ds'}, Args K G B ms vs ds → Args K G B ms' vs' ds' → Args K G B (ms ++ ms') (vs ++ vs') (ds ++ ds')
  | _, _, _, _, _, _, .nil, b => b
  | _, _, _, _, _, _, .cons r t, b => .cons r (t.app b)
/-- a call's result -/
theorem call_back {E : XK} {ms : List Md} {t : TF} {vs : List V} {ds : List D} {Q : VK} {QD : R → Prop} (M : Mem K F lk G L σ H) (a : Args K (lkd lk G) H ms vs ds) (ht : t noX ds QD)
    (k : ∀ v H' G' r, Same G G' → Mem K F lk G' L σ H' → HR K F lk G' L σ H' v (rA r) → QD r → Q v H') : SpD K ms t vs H Q E := by
  refine ⟨lkd lk G, ds, QD, noX, M.gH, a, ht, fun _ _ _ _ _ _ _ _ _ _ _ _ _ z => z.elim, fun v H' Gc r s1 s2 s3 hn hr q => ?_⟩
  obtain ⟨G2, sg, M2, e, hp⟩ := M.after s1 s2 s3 hn
  have T : Tr K Gc G2 := by
    have := Tr.unlock (K := K) M2.okG
    rwa [e] at this
  refine k v H' G2 r sg M2 ?_ q
  cases r with
  | s d => exact Rep.tr T hr
  | o d =>
    obtain ⟨p, rfl, ow, h1, h2⟩ := hr
    refine ⟨p, rfl, ow.mono T rfl, hp p h2 h1, M.bnone h2, M.lknone h2, M.dom p h2, fun i c d' q1 q2 q3 => ?_⟩
    obtain ⟨v, e, r⟩ := M.sl i c q1
    rw [q3] at e; cases e
    obtain ⟨b, e, ow⟩ := r.own_of q2
    cases e
    obtain ⟨u, hu⟩ := ow.some_of
    rw [h2] at hu; cases hu
end
section
variable {X : Cx} {E : XK} {e : Expr} {es : List Expr} {w : UA} {dvs : List V} {dds : List D} {ms ms' : List Md} {t : TF}
/-- f(e, ..): pe is pe_call F hr hg hm hk hb hd pass0 -/
theorem dx_call {e' : Expr} {ms1 : List Md} (pe : ∀ {ta}, PA X es ta → PE X e' (tCall (SpD X.K ms t) dvs E0 ta)) (ha : DA X E es w) (hd : ∀ G B, Args X.K G B ms' dvs dds) (hms : ms = ms1 ++ ms') :
    DX X E e' (uCall ms1 t dds w) := by
  obtain ⟨ta, p, ok⟩ := ha.ex
  refine ⟨_, pe p, fun F lk G L σ H Q QD XQ M xl hu po => ?_⟩
  refine ok F lk G L σ H _ _ XQ M xl hu fun vs H1 G1 L1 as s1 M1 r1 n1 q1 => ?_
  obtain ⟨ds, e1, q⟩ := q1
  have a1 := (M1.args r1 e1).app (hd (lkd lk G1) H1)
  rw [← hms] at a1
  exact call_back M1 a1 q fun v H' G' r s M' hr q => po v H' G' L1 (rA r) (s1.trans s) M' hr q
end
end QD

set_option Elab.async false
set_option linter.all false
set_option maxRecDepth 100000
set_option maxHeartbeats 4000000
namespace QD
open PySem PySem.Spec L2 PyProof.Rows
def del (H : Hp) (r : Addr) : Hp := fun b => if b = r then none else H b
theorem del_ne {H : Hp} {r b : Addr} (h : b ≠ r) : del H r b = H b := if_neg h
theorem del_same {H : Hp} {r : Addr} : del H r r = none := if_pos rfl
theorem same_del {H : Hp} {r : Addr} : Same (del H r) H := fun b o e => by
  by_cases h : b = r
  · subst h; rw [del_same] at e; cases e
  · rwa [del_ne h] at e
theorem to_del {G H : Hp} {r : Addr} (s : Same G H) (h : G r = none) : Same G (del H r) := fun b o e => by
  rw [del_ne (fun z => by rw [z, h] at e; cases e)]
  exact s b o e
abbrev TFO := XP → D → List D → (D → R → Prop) → Prop
/-- the first argument is a container of the caller's that is changed -/
def SpO (K : PySem.W.Frag) (ms : List Md) (t : TFO) : Sp := fun vs H Q E => ∃ (r : Addr) (ws : List V) (G : Hp) (d0 : D) (ds : List D) (QD : D → R → Prop), vs = .ref r :: ws ∧ Same G H ∧ G r = none ∧ Own K G H r d0 ∧
  Args K G (del H r) ms ws ds ∧ t noX d0 ds QD ∧ ∀ v H' G' d' rr, (∀ b o, b ≠ r → H b = some o → H' b = some o) → Same G G' → Same G' H' → (∀ a, G a = none → G' a ≠ none → H a = none) → G' r = none → Own K G' H' r d' →
    (match rr with | .s d => Rep K G' v d | .o d => ∃ p, v = .ref p ∧ Own K G' H' p d ∧ G' p = none ∧ H p = none) → QD d' rr → Q v H'
def uDefO (ms : List Md) (n : Nat) (u : US) : TFO := fun XQ d0 ds QD => u XQ { nx := fun L => ∃ d', ownAt L 0 = some d' ∧ QD d' (.s .non), rt := fun L r => ∃ d', ownAt L 0 = some d' ∧ QD d' r } (some (.p d0) :: (argL ms ds ++ List.replicate n none))
theorem mem_startO {K : PySem.W.Frag} {ms ws ds} {G H : Hp} {N : List Str} {r : Addr} {d0 : D} (s : Same G H) (hr : G r = none) (ow : Own K G H r d0) (a : Args K G (del H r) ms ws ds) (hl : ws.length + 1 ≤ N.length) :
    Mem K ⟨H, G, del H r, [(0, r)], fun _ => none⟩ lk0 G (some (.p d0) :: (argL ms ds ++ List.replicate (N.length - (ws.length + 1)) none)) (L2.start N (.ref r :: ws)) H := by
  have hlen := argL_len a
  have at_ : ∀ {i : Nat} {c : C}, (some (C.p d0) :: (argL ms ds ++ List.replicate (N.length - (ws.length + 1)) none))[i]? = some (some c) → (i = 0 ∧ c = .p d0) ∨ ∃ j, i = j + 1 ∧ (argL ms ds)[j]? = some (some c) := fun {i c} h => by
    cases i with
    | zero => simp at h; exact .inl ⟨rfl, h.symm⟩
    | succ j =>
      rw [List.getElem?_cons_succ] at h
      refine .inr ⟨j, rfl, ?_⟩
      by_cases hi : j < (argL ms ds).length
      · rwa [List.getElem?_append_left hi] at h
      · rw [List.getElem?_append_right (by omega), List.getElem?_replicate] at h
        split at h <;> cases h
  have s0 : (L2.start N (.ref r :: ws))[0]? = some (some (.ref r)) := by unfold L2.start; simp
  have own0 : ∀ {i : Nat} {c : C} {d : D}, (some (C.p d0) :: (argL ms ds ++ List.replicate (N.length - (ws.length + 1)) none))[i]? = some (some c) → c.own = some d → i = 0 ∧ c = .p d0 := fun {i c d} h e => by
    rcases at_ h with z | ⟨j, rfl, z⟩
    · exact z
    · obtain ⟨v, _, _, y⟩ := argL_at a z
      rw [y] at e; cases e
  refine ⟨.refl _, s, same_del, fun _ _ h => (by cases h), fun _ h => h, fun a h1 h2 => absurd h1 h2, fun _ _ h => (by cases h), fun i c h => ?_, fun i c d b h1 h2 h3 => ?_, fun i d b h1 _ => ?_, fun i j c c' d d' b h1 h2 h3 h4 _ _ => ?_, fun p hp => ?_, ?_, fun _ _ h => (by cases h)⟩
  · rcases at_ h with ⟨rfl, rfl⟩ | ⟨j, rfl, z⟩
    · exact ⟨_, s0, r, rfl, ow⟩
    · obtain ⟨v, h1, h2, _⟩ := argL_at a z
      refine ⟨v, ?_, h2 H⟩
      unfold L2.start
      have hi : j < ws.length := (List.getElem?_eq_some_iff.mp h1).1
      rw [List.getElem?_append_left (by simpa using hi), List.getElem?_map, List.getElem?_cons_succ, h1]
      rfl
  · obtain ⟨rfl, rfl⟩ := own0 h1 h2
    rw [s0] at h3
    cases h3
    exact ⟨hr, ⟨del_same, rfl⟩, rfl⟩
  · obtain ⟨rfl, z⟩ := own0 h1 rfl
    cases z
  · rw [(own0 h1 h2).1, (own0 h3 h4).1]
  · have : p = (0, r) := by simpa using hp
    subst this
    exact ⟨s0, d0, rfl⟩
  · unfold L2.start
    simp [hlen]
section
variable {P : Program} {w : World} {K : PySem.W.Frag} {mg : Str → Option Value} {base : Heap}
theorem fn_o {qual : Str} {st : Stmt} {f : Addr} {fd : FuncData} {N ps : List Str} {k : Nat} {ms : List Md} {u : US} (F : FunU K qual st f fd) (S : FnScope N ps (defScope st)) (hm : ms.length + 1 = ps.length) (n : Nat) (hn : N.length - ps.length = n)
    (hbody : ∀ (cdv : Value) (A : Around) (outer : List Env) (s : Shared) (H : Hp) (E : XK), Room k (A.deeper (envOfC qual (defScope st) s.heap.objs.size f cdv)) → DSs (cxOf CX0 P w K mg base N qual (defScope st) f cdv A outer s H E).nox E (defBody st) u) :
    FnOk P w K mg base CX0 (k + 1) f fd ps (SpO K ms (uDefO ms n u)) := by
  refine F.ok S (fun vs H Q E h => ?_) (fun cdv A outer s H vs Q E hr h => ?_)
  · obtain ⟨r, ws, G, d0, ds, QD, rfl, _, _, _, a, _⟩ := h
    rw [← hm, ← a.len]; rfl
  · obtain ⟨r, ws, G, d0, ds, QD, rfl, s0, hg, ow, a, ht, k⟩ := h
    obtain ⟨t, p, ok⟩ := (hbody cdv A outer s H E hr).ex
    have hpl : ps.length ≤ N.length := by have := congrArg List.length S.pre; rw [List.length_take] at this; omega
    have hl : ws.length + 1 = ps.length := by rw [a.len, hm]
    have fin : ∀ {v G' L' σ' H' rr}, Mem K ⟨H, G, del H r, [(0, r)], fun _ => none⟩ lk0 G' L' σ' H' → RR K ⟨H, G, del H r, [(0, r)], fun _ => none⟩ G' H' v rr → (∃ d', ownAt L' 0 = some d' ∧ QD d' rr) → Q v H' := fun {v G' L' σ' H' rr} M hrr ⟨d', e1, q⟩ => by
      have hb := M.bH
      have hg' := M.gH
      rw [lkd0] at hb hg'
      obtain ⟨s1, d1, l1⟩ := M.par (0, r) (by simp)
      obtain ⟨a', e', o'⟩ := M.slot e1 s1
      cases e'
      refine k v H' G' d' rr (fun b o hne e => hb b o (by show del H r b = some o; rw [del_ne hne]; exact e)) M.g0 hg' (fun b h1 h2 => M.new b h1 h2) ?_ o' (by
        cases rr with
        | s d => exact hrr
        | o d => obtain ⟨p, z1, z2, z3, z4, _⟩ := hrr; exact ⟨p, z1, z2, z3, z4⟩) q
      obtain ⟨c, h1, h2⟩ := ownAt_some e1
      exact (M.own 0 c d' r h1 h2 s1).1
    refine ⟨t, p, ok ⟨H, G, del H r, [(0, r)], fun _ => none⟩ lk0 G _ _ H _ { nx := fun L => ∃ d', ownAt L 0 = some d' ∧ QD d' (.s .non), rt := fun L r => ∃ d', ownAt L 0 = some d' ∧ QD d' r } noX (mem_startO s0 hg ow a (by omega)) ⟨.inl rfl, fun _ _ _ _ _ _ _ _ _ _ _ _ z => z.elim⟩ (by
      have ht : u noX { nx := fun L => ∃ d', ownAt L 0 = some d' ∧ QD d' (.s .non), rt := fun L r => ∃ d', ownAt L 0 = some d' ∧ QD d' r } (some (.p d0) :: (argL ms ds ++ List.replicate n none)) := ht
      rw [← hn, ← hl] at ht
      exact ht) ?_⟩
    exact ⟨fun G' L' σ' H' s M q => fin (rr := .s .non) M .non q, fun _ _ _ _ _ _ q => q.elim, fun _ _ _ _ _ _ q => q.elim, fun v G' L' σ' H' rr s M hrr q => fin M hrr q⟩
end
def notSl (i : Nat) : A → Bool
  | .sl j => decide (j ≠ i)
  | _ => true
section
variable {K : PySem.W.Frag} {F : FB} {lk : Lk} {G : Hp} {L : Env'} {σ : St} {H : Hp}
theorem Own.rep {a : Addr} {d : D} (o : Own K G H a d) (T : Tr K G H) : Rep K H (.ref a) d := o.vw.rep T
theorem Mem.argsO (M : Mem K F lk G L σ H) {i : Nat} {r : Addr} {d0 : D} (h0 : ownAt L i = some d0) (hv : σ[i]? = some (some (.ref r))) : ∀ {ms vs as ds}, HRs K F lk G L σ H vs as → as.all (notSl i) = true → argsOf L ms as = some ds → Args K (lkd lk G) (del H r) ms vs ds
  | [], _, _, _, .nil, _, e => by cases e; exact .nil
  | _ :: _, _, _, _, .nil, _, e => by simp [argsOf] at e
  | [], _, _, _, .cons _ _, _, e => by simp [argsOf] at e
  | .b :: ms, _, _, _, .cons (v := v) (a := a) rr t, ha, e => by
    rw [List.all_cons, Bool.and_eq_true] at ha
    obtain ⟨c0, z1, z2⟩ := ownAt_some h0
    obtain ⟨m1, m2, m3⟩ := M.own i c0 d0 r z1 z2 hv
    have sG : Same (lkd lk G) (del H r) := to_del M.gH (by unfold lkd; rw [m3]; exact m1)
    have sB : Same (lkd lk F.B) (del H r) := to_del M.bH (by unfold lkd; rw [m3]; exact m2.1)
    have tG : Tr K G (del H r) := (Tr.lock M.okG).trans (Tr.same sG)
    unfold argsOf at e
    split at e
    · rename_i d ds' e1 e2
      cases e
      refine .cons (m := .b) ?_ (M.argsO h0 hv t ha.2 e2)
      show Rep K (del H r) v d
      cases a with
      | g x => cases e1; exact Rep.tr tG rr
      | b x => cases e1; exact Rep.tr ((Tr.lock M.okB).trans (Tr.same sB)) rr
      | sl j =>
        obtain ⟨b, rfl, o⟩ := M.slot e1 rr
        obtain ⟨c1, y1, y2⟩ := ownAt_some e1
        have hne : b ≠ r := fun z => by
          have hj : decide (j ≠ i) = true := ha.1
          exact (of_decide_eq_true hj) (M.inj j i c1 c0 d d0 r y1 y2 z1 z2 (by rw [← z]; exact rr) hv)
        exact (o.mono (H' := del H r) .refl (del_ne hne)).rep tG
      | f x =>
        cases e1
        obtain ⟨p, rfl, o, _, _, _, _, hp⟩ := rr
        have hne : p ≠ r := fun z => hp i c0 d0 z1 z2 (by rw [z]; exact hv)
        exact (o.mono (H' := del H r) .refl (del_ne hne)).rep tG
    · cases e
  | .g :: ms, _, _, _, .cons (a := .g d) rr t, ha, e => by
    rw [List.all_cons, Bool.and_eq_true] at ha
    have e : (argsOf L ms _).map (d :: ·) = some _ := e
    cases q : argsOf L ms _ with
    | none => rw [q] at e; cases e
    | some ds => rw [q] at e; cases e; exact .cons (m := .g) (Rep.tr (Tr.lock M.okG) rr) (M.argsO h0 hv t ha.2 q)
  | .g :: ms, _, _, _, .cons (a := .b d) rr t, ha, e => by
    rw [List.all_cons, Bool.and_eq_true] at ha
    have e : (if d.flat = true then (argsOf L ms _).map (d :: ·) else none) = some _ := e
    by_cases hf : d.flat = true
    · rw [if_pos hf] at e
      cases q : argsOf L ms _ with
      | none => rw [q] at e; cases e
      | some ds => rw [q] at e; cases e; exact .cons (m := .g) (Rep.flat (show Rep K F.B _ d from rr) hf) (M.argsO h0 hv t ha.2 q)
    · rw [if_neg hf] at e; cases e
  | .g :: ms, _, _, _, .cons (a := .sl _) _ _, _, e => by simp [argsOf] at e
  | .g :: ms, _, _, _, .cons (a := .f _) _ _, _, e => by simp [argsOf] at e
theorem Mem.noaddr (M : Mem K F lk G L σ H) {p : Addr} (h : H p = none) : ∀ (i : Nat) c d', L[i]? = some (some c) → c.own = some d' → σ[i]? ≠ some (some (.ref p)) := fun i c d' q1 q2 q3 => by
  obtain ⟨v, e, r⟩ := M.sl i c q1
  rw [q3] at e; cases e
  obtain ⟨b, e, ow⟩ := r.own_of q2
  cases e
  obtain ⟨u, hu⟩ := ow.some_of
  rw [h] at hu; cases hu
theorem putO_own {i : Nat} {d d0 : D} (h : ownAt L i = some d0) {j : Nat} {c : C} {d' : D} (q1 : (putO L i d)[j]? = some (some c)) (q2 : c.own = some d') : ∃ c2 d2, L[j]? = some (some c2) ∧ c2.own = some d2 := by
  obtain ⟨c0, h1, h2⟩ := ownAt_some h
  have ep : putO L i d = L.set i (some (c0.put d)) := by unfold putO; rw [h1]
  rw [ep] at q1
  rcases set_back q1 with ⟨rfl, rfl⟩ | ⟨_, q⟩
  · exact ⟨c0, d0, h1, h2⟩
  · exact ⟨c, d', q, q2⟩
/-- a call that changes the container of slot i -/
theorem call_backO {E : XK} {ms : List Md} {t : TFO} {ws : List V} {ds : List D} {i : Nat} {r : Addr} {d0 : D} {Q : VK} {QD : D → R → Prop} (M : Mem K F lk G L σ H) (h0 : ownAt L i = some d0) (hv : σ[i]? = some (some (.ref r))) (a : Args K (lkd lk G) (del H r) ms ws ds) (ht : t noX d0 ds QD)
    (k : ∀ v H' G' d' rr, Same G G' → Mem K F lk G' (putO L i d') σ H' → HR K F lk G' (putO L i d') σ H' v (rA rr) → QD d' rr → Q v H') : SpO K ms t (.ref r :: ws) H Q E := by
  obtain ⟨c0, z1, z2⟩ := ownAt_some h0
  obtain ⟨m1, m2, m3⟩ := M.own i c0 d0 r z1 z2 hv
  obtain ⟨_, e, o⟩ := M.slot h0 hv
  cases e
  have hgr : lkd lk G r = none := by unfold lkd; rw [m3]; exact m1
  obtain ⟨u0, hu0⟩ := o.some_of
  refine ⟨r, ws, lkd lk G, d0, ds, QD, rfl, M.gH, hgr, o.mono (Tr.lock M.okG) rfl, a, ht, fun v H' Gc d' rr s1 s2 s3 hn hc ow hr q => ?_⟩
  -- the heap between: all but r is new
  have e1 : (fun b => if b = r then H r else H' b) r = H r := if_pos rfl
  have e2 : ∀ b, b ≠ r → (fun b => if b = r then H r else H' b) b = H' b := fun b hb => if_neg hb
  obtain ⟨G2, sg, M2, e, hp⟩ := M.after (H' := fun b => if b = r then H r else H' b) (Gc := Gc) (fun b o e => by
      by_cases hb : b = r
      · subst hb; exact (if_pos rfl).trans e
      · exact (if_neg hb).trans (s1 b o hb e)) s2 (fun b o e => by
      have hb : b ≠ r := fun z => by rw [z, hc] at e; cases e
      exact (if_neg hb).trans (s3 b o e)) hn
  have T : Tr K Gc G2 := by
    have := Tr.unlock (K := K) M2.okG
    rwa [e] at this
  have M3 := M2.write (H' := H') h0 hv (fun b o hb e => (if_neg hb).symm.trans e) (ow.mono T rfl)
  refine k v H' G2 d' rr sg M3 ?_ q
  cases rr with
  | s d => exact Rep.tr T hr
  | o d =>
    obtain ⟨p, rfl, ow, h1, h2⟩ := hr
    refine ⟨p, rfl, ow.mono T rfl, hp p h2 h1, M.bnone h2, M.lknone h2, M.dom p h2, fun j c d' q1 q2 => ?_⟩
    obtain ⟨c2, d2, y1, y2⟩ := putO_own h0 q1 q2
    exact M.noaddr h2 j c2 d2 y1 y2
end
def uCallO (i : Nat) (ms : List Md) (t : TFO) (dds : List D) (w : UA) : UE := fun XQ L QD => w XQ L fun L' as => ∃ as' d0 ds, as = .sl i :: as' ∧ ownAt L' i = some d0 ∧ as'.all (notSl i) = true ∧ argsOf L' ms as' = some ds ∧ t noX d0 (ds ++ dds) fun d' r => QD (putO L' i d') (rA r)
/-- C(e, ..) -/
def uMake (C : Addr) (ms : List Md) (t : TFO) (dds : List D) (w : UA) : UE := fun XQ L QD => w XQ L fun L' as => ∃ ds, argsOf L' ms as = some ds ∧ t noX (.ins C []) (ds ++ dds) fun d' r => r = .s .non ∧ QD L' (.f d')
/-- o.m(e, ..), the object is read -/
def insAt (C : Addr) (L : Env') (a : A) (m : Str) : Prop := ∃ fs, a.get L = some (.ins C fs) ∧ fs.lookup m = none
def uMeth (C : Addr) (m : Str) (ms : List Md) (t : TF) (dds : List D) (u : UE) (w : UA) : UE := fun XQ L QD => u XQ L fun L1 a => insAt C L1 a m ∧ w XQ L1 fun L' as => ∃ ds, argsOf L' ms (a :: as) = some ds ∧ t noX (ds ++ dds) fun r => QD L' (rA r)
def uProp (C : Addr) (ms : List Md) (t : TF) (dds : List D) (u : UE) : UE := fun XQ L QD => u XQ L fun L' a => (∃ fs, a.get L' = some (.ins C fs)) ∧ ∃ ds, argsOf L' ms [a] = some ds ∧ t noX (ds ++ dds) fun r => QD L' (rA r)
theorem RepF.lookup {K : PySem.W.Frag} {G : Hp} {f : Str} : ∀ {fs gs}, RepF K G fs gs → (∀ d, gs.lookup f = some d → ∃ v, fs.lookup f = some v ∧ Rep K G v d) ∧ (gs.lookup f = none → fs.lookup f = none)
  | _, _, .nil => ⟨fun d h => by simp at h, fun _ => rfl⟩
  | _, _, .cons (k := k) (v := v) (d := d) r t => by
    obtain ⟨h1, h2⟩ := t.lookup (f := f)
    simp only [List.lookup_cons]
    cases e : f == k with
    | true => exact ⟨fun d' h => ⟨v, rfl, by cases h; exact r⟩, fun h => by cases h⟩
    | false => exact ⟨h1, h2⟩
section
variable {X : Cx} {E : XK} {o : Expr} {es : List Expr} {u : UE} {w : UA} {dvs : List V} {dds : List D} {ms ms' : List Md} {i : Nat} {C : Addr} {m : Str}
theorem Args.imp {K : PySem.W.Frag} {G B B' : Hp} (T : Tr K B B') : ∀ {ms vs ds}, Args K G B ms vs ds → Args K G B' ms vs ds
  | _, _, _, .nil => .nil
  | _, _, _, .cons (m := .g) r t => .cons (m := .g) r (t.imp T)
  | _, _, _, .cons (m := .b) r t => .cons (m := .b) (Rep.tr T r) (t.imp T)
theorem dx_callO {t : TFO} {e' : Expr} {ms1 : List Md} (i : Nat) (pe : ∀ {ta}, PA X es ta → PE X e' (tCall (SpO X.K ms t) dvs E0 ta)) (ha : DA X E es w) (hd : ∀ G B, Args X.K G B ms' dvs dds) (hms : ms = ms1 ++ ms') :
    DX X E e' (uCallO i ms1 t dds w) := by
  obtain ⟨ta, p, ok⟩ := ha.ex
  refine ⟨_, pe p, fun F lk G L σ H Q QD XQ M xl hu po => ?_⟩
  refine ok F lk G L σ H _ _ XQ M xl hu fun vs H1 G1 L1 as s1 M1 r1 n1 q1 => ?_
  obtain ⟨as', d0, ds, rfl, h0, hn, e1, q⟩ := q1
  cases r1 with
  | cons r0 rs =>
    have hv : σ[i]? = some (some _) := r0
    obtain ⟨r, rfl, o⟩ := M1.slot h0 hv
    have a1 := (M1.argsO h0 hv rs hn e1).app (hd (lkd lk G1) (del H1 r))
    rw [← hms] at a1
    exact call_backO M1 h0 hv a1 q fun v H' G' d' rr s M' hr q => po v H' G' _ (rA rr) (s1.trans s) M' hr q
theorem dx_make {t : TFO} {e' : Expr} {ms1 : List Md} (pe : ∀ {ta}, PA X es ta → PE X e' (tMake C (SpO X.K ms t) dvs E0 ta)) (ha : DA X E es w) (hd : ∀ G B, Args X.K G B ms' dvs dds) (hms : ms = ms1 ++ ms') :
    DX X E e' (uMake C ms1 t dds w) := by
  obtain ⟨ta, p, ok⟩ := ha.ex
  refine ⟨_, pe p, fun F lk G L σ H Q QD XQ M xl hu po => ?_⟩
  refine ok F lk G L σ H _ _ XQ M xl hu fun vs H1 G1 L1 as s1 M1 r1 n1 q1 => ?_
  obtain ⟨ds, e1, q⟩ := q1
  intro x dx hx hdx hne
  have a1 := (M1.args r1 e1).app (hd (lkd lk G1) H1)
  rw [← hms] at a1
  have s2 : Same H1 (upd (upd H1 dx (.own x)) x (.ins C dx [])) := fun b o e => by
    rw [upd_ne (ne_of_none e hx), upd_ne (ne_of_none e hdx)]; exact e
  have gx : lkd lk G1 x = none := by
    unfold lkd; rw [M1.lknone hx]; exact M1.gnone hx
  refine ⟨x, vs ++ dvs, lkd lk G1, .ins C [], ds ++ dds, _, rfl, M1.gH.trans s2, gx, ⟨dx, [], upd_same, .nil⟩, a1.imp (Tr.same (to_del s2 hx)), q, fun v H' Gc d' rr t1 t2 t3 hn hc ow hr q => ?_⟩
  obtain ⟨rfl, q⟩ := q
  have hr : Rep X.K Gc v .non := hr
  cases hr
  refine ⟨rfl, ?_⟩
  obtain ⟨G2, sg, M2, e, hp⟩ := M1.after (H' := H') (Gc := Gc) (fun b o e => t1 b o (ne_of_none e hx) (s2 b o e)) t2 t3 (fun b h1 h2 => s2.free (hn b h1 h2))
  have T : Tr X.K Gc G2 := by
    have := Tr.unlock (K := X.K) M2.okG
    rwa [e] at this
  exact po _ H' G2 L1 (.f d') (s1.trans sg) M2 ⟨x, rfl, ow.mono T rfl, hp x hx hc, M1.bnone hx, M1.lknone hx, M1.dom x hx, M1.noaddr hx⟩ q
theorem ins_of {K : PySem.W.Frag} {F : FB} {lk : Lk} {G : Hp} {L : Env'} {σ : St} {H : Hp} {v : V} {a : A} {C : Addr} {gs : List (Str × D)} (M : Mem K F lk G L σ H) (r : HR K F lk G L σ H v a) (e : a.get L = some (.ins C gs)) :
    ∃ p dx fs, v = .ref p ∧ H p = some (.ins C dx fs) ∧ RepF K (eh F G a) fs gs := M.vw r e
theorem dx_meth {t : TF} {e' : Expr} {ms1 : List Md} (pe : ∀ {to ta}, PE X o to → PA X es ta → PE X e' (tMeth C m (SpD X.K ms t) dvs E0 to ta)) (ho : DO X E o u) (ha : DA X E es w) (hd : ∀ G B, Args X.K G B ms' dvs dds) (hms : ms = ms1 ++ ms') :
    DX X E e' (uMeth C m ms1 t dds u w) := by
  obtain ⟨to, p0, ok0⟩ := ho.ex
  obtain ⟨ta, p, ok⟩ := ha.ex
  refine ⟨_, pe p0 p, fun F lk G L σ H Q QD XQ M xl hu po => ?_⟩
  refine ok0 F lk G L σ H _ _ XQ M xl hu fun v H1 G1 L1 a s1 M1 r1 n1 q1 => ?_
  obtain ⟨⟨gs, eg, el⟩, q1⟩ := q1
  obtain ⟨p', dx, fs, rfl, hp, rf⟩ := ins_of M1 r1 eg
  refine ⟨p', dx, fs, rfl, hp, rf.lookup.2 el, ?_⟩
  refine ok F lk G1 L1 σ H1 _ _ XQ M1 xl q1 fun vs H2 G2 L2 as s2 M2 r2 n2 q2 => ?_
  obtain ⟨ds, e1, q⟩ := q2
  have a1 := (M2.args (.cons (r1.stay n1 s2) r2) e1).app (hd (lkd lk G2) H2)
  rw [← hms] at a1
  exact call_back M2 a1 q fun v H' G' r s M' hr q => po v H' G' L2 (rA r) ((s1.trans s2).trans s) M' hr q
theorem dx_prop {t : TF} {e' : Expr} {ms1 : List Md} (pe : ∀ {to}, PE X o to → PE X e' (tProp C (SpD X.K ms t) dvs E0 to)) (ho : DO X E o u) (hd : ∀ G B, Args X.K G B ms' dvs dds) (hms : ms = ms1 ++ ms') : DX X E e' (uProp C ms1 t dds u) := by
  obtain ⟨to, p0, ok0⟩ := ho.ex
  refine ⟨_, pe p0, fun F lk G L σ H Q QD XQ M xl hu po => ?_⟩
  refine ok0 F lk G L σ H _ _ XQ M xl hu fun v H1 G1 L1 a s1 M1 r1 n1 q1 => ?_
  obtain ⟨⟨gs, eg⟩, ds, e1, q⟩ := q1
  obtain ⟨p', dx, fs, rfl, hp, rf⟩ := ins_of M1 r1 eg
  refine ⟨p', dx, fs, rfl, hp, ?_⟩
  have a1 := (M1.args (.cons r1 .nil) e1).app (hd (lkd lk G1) H1)
  rw [← hms] at a1
  exact call_back M1 a1 q fun v H' G' r s M' hr q => po v H' G' L1 (rA r) (s1.trans s) M' hr q
end
end QD

set_option Elab.async false
set_option linter.all false
set_option maxRecDepth 100000
set_option maxHeartbeats 4000000
namespace QD
open PySem PySem.Spec L2 PyProof.Rows
/-! targets -/
abbrev UTg := Env' → A → (Env' → Prop) → Prop
abbrev UTgs := Env' → List A → (Env' → Prop) → Prop
structure DTg (X : Cx) (tg : Expr) (sl : List Nat) (w : UTg) : Prop where
  ex : ∃ g, PG X tg g ∧ ∀ F lk G L σ H x a Q QD, Mem X.K F lk G L σ H → HR X.K F lk G L σ H x a → (∀ d, a ≠ .f d) → w L a QD →
    (∀ σ' G' L' H', Same G G' → Mem X.K F lk G' L' σ' H' → (∀ vs : List Nat, (∀ i ∈ sl, i ∈ vs) → wipe σ' vs = wipe σ vs) → QD L' → Q σ' H') → g x σ H Q
structure DTgs (X : Cx) (tg : List Expr) (sl : List Nat) (w : UTgs) : Prop where
  ex : ∃ g, PGs X tg g ∧ ∀ F lk G L σ H xs as Q QD, Mem X.K F lk G L σ H → HRs X.K F lk G L σ H xs as → (∀ d, A.f d ∉ as) → (∀ i, A.sl i ∉ as) → w L as QD →
    (∀ σ' G' L' H', Same G G' → Mem X.K F lk G' L' σ' H' → (∀ vs : List Nat, (∀ i ∈ sl, i ∈ vs) → wipe σ' vs = wipe σ vs) → QD L' → Q σ' H') → g xs σ H Q
def gN (i : Nat) : UTg := fun L a QD => notP L i = true ∧ match a with
  | .g d => QD (L.set i (some (.g d)))
  | .b d => QD (L.set i (some (.b d)))
  | _ => False
def gT (w : UTgs) (n : Nat) : UTg := fun L a QD => ∃ ds, a.get L = some (.tup ds) ∧ ds.length = n ∧ w L (ds.map a.el) QD
def gsNil : UTgs := fun L as QD => as = [] ∧ QD L
def gsCons (w : UTg) (ws : UTgs) : UTgs := fun L as QD => ∃ a as', as = a :: as' ∧ w L a fun L' => ws L' as' QD
theorem wipe_set {σ : St} {i : Nat} {v : Option V} : ∀ {vs : List Nat}, i ∈ vs → wipe (σ.set i v) vs = wipe σ vs
  | [], h => by cases h
  | j :: vs, h => by
    unfold wipe
    by_cases hi : i ∈ vs
    · rw [wipe_set hi]
    · have e : j = i := by
        rcases List.mem_cons.mp h with z | z
        · exact z.symm
        · exact absurd z hi
      subst e
      clear h
      have out : ∀ {vs : List Nat} {σ : St}, j ∉ vs → (wipe (σ.set j v) vs).set j none = (wipe σ vs).set j none := fun {vs} => by
        induction vs with
        | nil => intro σ _; unfold wipe; rw [List.set_set]
        | cons k vs ih =>
          intro σ h
          have hk : k ≠ j := fun z => h (by simp [z])
          unfold wipe
          rw [List.set_comm _ _ hk, ih (fun z => h (List.mem_cons_of_mem _ z)), List.set_comm _ _ (Ne.symm hk)]
      exact out hi
section
variable {X : Cx} {tg : Expr} {tgs : List Expr} {pos : Pos}
theorem dtg_name (i : Nat) {x : Str} (hN : X.N.Nodup) (hi : X.N[i]? = some x := by rfl) (hx : Loc X.env.scope x := by first | exact Or.inl rfl | exact Or.inr rfl) (hf : X.fn x = true ∨ X.env.scope.names.lookup x = some .local := by first | exact .inl rfl | exact .inr rfl | assumption) : DTg X (.Name x pos) [i] (gN i) := by
  refine ⟨_, pg_name hN hi hx hf, fun F lk G L σ H x a Q QD M r nf hu po => ?_⟩
  obtain ⟨hn, hu⟩ := hu
  cases a with
  | g d => exact po _ G _ H (.refl _) (M.set (c := .g d) hn r (fun _ z => nomatch z) (fun _ _ z => nomatch z)) (fun vs h => wipe_set (h i (by simp))) hu
  | b d => exact po _ G _ H (.refl _) (M.set (c := .b d) hn r (fun _ z => nomatch z) (fun _ _ z => nomatch z)) (fun vs h => wipe_set (h i (by simp))) hu
  | sl j => exact hu.elim
  | f d => exact hu.elim
theorem HRs.keep {K : PySem.W.Frag} {F : FB} {lk : Lk} {G G' : Hp} {L L' : Env'} {σ σ' : St} {H H' : Hp} : ∀ {vs as}, HRs K F lk G L σ H vs as → (∀ d, A.f d ∉ as) → (∀ i, A.sl i ∉ as) → Same G G' → HRs K F lk G' L' σ' H' vs as
  | _, _, .nil, _, _, _ => .nil
  | _, _, .cons (a := .g d) r t, nf, ns, s => .cons (Rep.tr (Tr.same s) r) (t.keep (fun d z => nf d (List.mem_cons_of_mem _ z)) (fun d z => ns d (List.mem_cons_of_mem _ z)) s)
  | _, _, .cons (a := .b d) r t, nf, ns, s => .cons r (t.keep (fun d z => nf d (List.mem_cons_of_mem _ z)) (fun d z => ns d (List.mem_cons_of_mem _ z)) s)
  | _, _, .cons (a := .sl i) r t, nf, ns, s => absurd List.mem_cons_self (ns i)
  | _, _, .cons (a := .f d) r t, nf, ns, s => absurd List.mem_cons_self (nf d)
theorem dtgs_nil : DTgs X [] [] gsNil := by
  refine ⟨_, pgs_nil, fun F lk G L σ H xs as Q QD M r nf ns hu po => ?_⟩
  obtain ⟨rfl, hu⟩ := hu
  cases r
  exact ⟨rfl, po σ G L H (.refl _) M (fun _ _ => rfl) hu⟩
theorem dtgs_cons {s1 s2 : List Nat} {w : UTg} {ws : UTgs} (h1 : DTg X tg s1 w) (h2 : DTgs X tgs s2 ws) (hs : (assignEach (tg :: tgs) X.env).map (·.2) = assign tg X.env :: (assignEach tgs X.env).map (·.2) := by rfl) : DTgs X (tg :: tgs) (s1 ++ s2) (gsCons w ws) := by
  obtain ⟨g, p, ok⟩ := h1.ex
  obtain ⟨g2, p2, ok2⟩ := h2.ex
  refine ⟨_, pgs_cons p p2 hs, fun F lk G L σ H xs as Q QD M r nf ns hu po => ?_⟩
  obtain ⟨a, as', rfl, hu⟩ := hu
  cases r with
  | cons r rs =>
    refine ⟨_, _, rfl, ok F lk G L σ H _ a _ _ M r (fun d z => nf d (by simp [z])) hu fun σ' G' L' H' s M' hw q => ?_⟩
    have rs' := rs.keep (L' := L') (σ' := σ') (H' := H') (fun d z => nf d (List.mem_cons_of_mem _ z)) (fun d z => ns d (List.mem_cons_of_mem _ z)) s
    refine ok2 F lk G' L' σ' H' _ as' _ _ M' rs' (fun d z => nf d (List.mem_cons_of_mem _ z)) (fun d z => ns d (List.mem_cons_of_mem _ z)) q fun σ'' G'' L'' H'' s2 M'' hw2 q2 => ?_
    exact po σ'' G'' L'' H'' (s.trans s2) M'' (fun vs h => (hw2 vs fun i hi => h i (List.mem_append_right _ hi)).trans (hw vs fun i hi => h i (List.mem_append_left _ hi))) q2
theorem HRs.els {K : PySem.W.Frag} {F : FB} {lk : Lk} {G : Hp} {L : Env'} {σ : St} {H : Hp} {a : A} : ∀ {vs ds}, Reps K (eh F G a) vs ds → HRs K F lk G L σ H vs (ds.map a.el)
  | _, _, .nil => .nil
  | _, _, .cons r t => .cons (HR.el r) (HRs.els t)
theorem el_nf {a : A} {d e : D} : a.el d ≠ .f e := by
  cases a with
  | b x => show (if d.flat = true then A.g d else A.b d) ≠ _; split <;> exact fun z => nomatch z
  | _ => exact fun z => nomatch z
theorem el_ns {a : A} {d : D} {i : Nat} : a.el d ≠ .sl i := by
  cases a with
  | b x => show (if d.flat = true then A.g d else A.b d) ≠ _; split <;> exact fun z => nomatch z
  | _ => exact fun z => nomatch z
theorem dtg_tup {k : Nat} {sl : List Nat} {w : UTgs} {n : Nat} (hc : X.calm = true) (h : DTgs X tgs sl w) (hn : (assignEach tgs X.env).length = n := by rfl) (hst : (assignEach tgs X.env).findIdx? (·.1) = none := by rfl) : DTg X (.Tuple tgs k pos) sl (gT w n) := by
  obtain ⟨g, p, ok⟩ := h.ex
  refine ⟨_, pg_tup hc p hn hst, fun F lk G L σ H x a Q QD M r nf hu po => ?_⟩
  obtain ⟨ds, e, hl, hu⟩ := hu
  obtain ⟨b, vs, rfl, sq, rs⟩ := M.vw r e
  refine ⟨b, vs, rfl, sq, by rw [rs.len]; exact hl, ok F lk G L σ H vs _ Q QD M (HRs.els rs) (fun d z => ?_) (fun i z => ?_) hu po⟩
  · obtain ⟨d', _, e'⟩ := List.mem_map.mp z
    exact el_nf e'
  · obtain ⟨d', _, e'⟩ := List.mem_map.mp z
    exact el_ns e'
end

/-! what is walked -/
abbrev UI := XP → Env' → (Env' → List A → Prop) → Prop
structure Wlk (K : PySem.W.Frag) (F : FB) (lk : Lk) (G : Hp) (J : It) (as : List A) : Prop where
  ex : ∃ Gp Y, Walk J as.length Gp Y ∧ (∀ Kp H0 G0 G1 L1 σ1 H1, Same G G1 → Mem K ⟨H0, G0, F.B, F.pa, Kp⟩ lk G1 L1 σ1 H1 → Gp H1) ∧
    ∀ (i : Nat) x a Kp H0 G0 G1 L1 σ1 H1 H2, as[i]? = some a → Same G G1 → Mem K ⟨H0, G0, F.B, F.pa, Kp⟩ lk G1 L1 σ1 H1 → Y i H1 x H2 → ∃ G2, Same G1 G2 ∧ Mem K ⟨H0, G0, F.B, F.pa, Kp⟩ lk G2 L1 σ1 H2 ∧ HR K ⟨H0, G0, F.B, F.pa, Kp⟩ lk G2 L1 σ1 H2 x a ∧ (∀ d, a ≠ .f d) ∧ ∀ i, a ≠ .sl i
abbrev ZP := FB → Lk → Hp → Env' → St → Hp → Prop
abbrev z0 : ZP := fun _ _ _ _ _ _ => True
/-- under what Z says of the memory -/
structure DIz (X : Cx) (E : XK) (tg iter : Expr) (Z : ZP) (w : UI) : Prop where
  ex : ∃ wi, PI X tg iter wi ∧ ∀ F lk G L σ H (R : It → Hp → Prop) QD XQ, Mem X.K F lk G L σ H → Z F lk G L σ H → XLk X.K F lk E XQ → w XQ L QD →
    (∀ J H' G' L' as, Same G G' → Mem X.K F lk G' L' σ H' → Wlk X.K F lk G' J as → QD L' as → R J H') → wi σ H R
abbrev DI (X : Cx) (E : XK) (tg iter : Expr) (w : UI) : Prop := DIz X E tg iter z0 w
structure DXz (X : Cx) (E : XK) (e : Expr) (Z : ZP) (u : UE) : Prop where
  ex : ∃ t, PE X e t ∧ ∀ F lk G L σ H Q QD XQ, Mem X.K F lk G L σ H → Z F lk G L σ H → XLk X.K F lk E XQ → u XQ L QD → Post X.K F lk G σ QD Q → t σ H Q
structure DSz (X : Cx) (E : XK) (st : Stmt) (Z : ZP) (u : US) : Prop where
  ex : ∃ t, PS X st t ∧ ∀ F lk G L σ H Dn DD XQ, Mem X.K F lk G L σ H → Z F lk G L σ H → XLk X.K F lk E XQ → u XQ DD L → Lnk X.K F lk G Dn DD → t Dn σ H
theorem dx_z {X : Cx} {E : XK} {e : Expr} {u : UE} (h : DXz X E e z0 u) : DX X E e u := by
  obtain ⟨t, p, ok⟩ := h.ex
  exact ⟨t, p, fun F lk G L σ H Q QD XQ M => ok F lk G L σ H Q QD XQ M trivial⟩
theorem ds_z {X : Cx} {E : XK} {st : Stmt} {u : US} (h : DSz X E st z0 u) : DS X E st u := by
  obtain ⟨t, p, ok⟩ := h.ex
  exact ⟨t, p, fun F lk G L σ H Dn DD XQ M => ok F lk G L σ H Dn DD XQ M trivial⟩
def uLoop (wt : UTg) (ub : US) (XQ : XP) (DD : ED) : List A → Env' → Prop
  | [], L => DD.nx L
  | a :: r, L => wt L a fun L1 => ub XQ { nx := uLoop wt ub XQ DD r, ct := uLoop wt ub XQ DD r, bk := DD.nx, rt := DD.rt } L1
def uFor (w : UI) (wt : UTg) (ub : US) : US := fun XQ DD L => w XQ L fun L' as => uLoop wt ub XQ DD as L'
section
variable {X : Cx} {E : XK} {tg iter : Expr} {body : List Stmt} {w : UI} {wt : UTg} {ub : US} {sl : List Nat} {pos : Pos} {Z : ZP}
theorem ds_forz (hi : DIz X E tg iter Z w) (hg : DTg X tg sl wt) (hb : DSs X E body ub) (ps : ∀ {wi g tb}, PI X tg iter wi → PG X tg g → PSs X body tb → PS X (.For tg iter body [] pos) (L2.tFor wi g tb)) :
    DSz X E (.For tg iter body [] pos) Z (uFor w wt ub) := by
  obtain ⟨wi, pi, oki⟩ := hi.ex
  obtain ⟨g, pg, okg⟩ := hg.ex
  obtain ⟨tb, pb, okb⟩ := hb.ex
  refine ⟨_, ps pi pg pb, fun F lk G L σ H Dn DD XQ M hz xl hu l => ?_⟩
  refine oki F lk G L σ H _ _ XQ M hz xl hu fun J H1 G1 L1 as s1 M1 W q1 => ?_
  obtain ⟨Gp, Y, wk, hG, hY⟩ := W.ex
  refine for_it wk (fun i σ H => ∃ G2 L2, Same G1 G2 ∧ Mem X.K F lk G2 L2 σ H ∧ uLoop wt ub XQ DD (as.drop i) L2) ⟨G1, L1, .refl _, M1, q1⟩
    (fun i σ H _ ⟨G2, L2, s2, M2, _⟩ => hG F.Kp F.H0 F.G0 G2 L2 σ H s2 M2) ?_ ?_
  · rintro i x σ2 H2 H3 hi ⟨G2, L2, s2, M2, q2⟩ hy
    have e : as.drop i = as[i] :: as.drop (i + 1) := List.drop_eq_getElem_cons hi
    rw [e] at q2
    obtain ⟨G3, s3, M3, r3, n3, n3'⟩ := hY i x as[i] F.Kp F.H0 F.G0 G2 L2 σ2 H2 H3 (by simp [hi]) s2 M2 hy
    refine okg F lk G3 L2 σ2 H3 x as[i] _ _ M3 r3 n3 q2 fun σ4 G4 L4 H4 s4 M4 _ q4 => ?_
    have sx : Same G1 G4 := (s2.trans s3).trans s4
    refine okb F lk G4 L4 σ4 H4 _ _ XQ M4 xl q4 ⟨fun G' L' σ' H' s M' q => ⟨G', L', sx.trans s, M', q⟩, fun G' L' σ' H' s M' q => l.nx G' L' σ' H' ((s1.trans sx).trans s) M' q, fun G' L' σ' H' s M' q => ⟨G', L', sx.trans s, M', q⟩,
      fun v G' L' σ' H' r s M' rr q => l.rt v G' L' σ' H' r ((s1.trans sx).trans s) M' rr q⟩
  · rintro σ2 H2 ⟨G2, L2, s2, M2, q2⟩
    rw [List.drop_eq_nil_of_le (Nat.le_refl _)] at q2
    exact l.nx G2 L2 σ2 H2 (s1.trans s2) M2 q2
end

/-! a thing that is kept while others are reckoned -/
def FB.grd (F : FB) (G : Hp) (p : Addr) (o : HO) : FB := ⟨upd F.H0 p o, G, F.B, F.pa, upd F.Kp p o⟩
section
variable {K : PySem.W.Frag} {F : FB} {lk : Lk} {G : Hp} {L : Env'} {σ : St} {H : Hp} {p : Addr} {o : HO}
/-- p is laid, and nobody's -/
structure Lone (F : FB) (lk : Lk) (G : Hp) (L : Env') (σ : St) (p : Addr) : Prop where
  g : G p = none
  k : F.nk p
  l : lk p = none
  h : F.H0 p = none
  s : ∀ (i : Nat) c d', L[i]? = some (some c) → c.own = some d' → σ[i]? ≠ some (some (.ref p))
theorem Mem.guard (M : Mem K F lk G L σ H) (hp : H p = some o) (l : Lone F lk G L σ p) : Mem K (F.grd G p o) lk G L σ H where
  g0 := .refl _
  gH := M.gH
  bH := M.bH
  kH := fun b u e => by
    by_cases hb : b = p
    · subst hb
      have e : upd F.Kp b o b = some u := e
      rw [upd_same] at e; cases e
      exact hp
    · have e : upd F.Kp p o b = some u := e
      rw [upd_ne hb] at e
      exact M.kH b u e
  dom := fun a h => by
    have hb : a ≠ p := fun z => by rw [z, hp] at h; cases h
    show upd F.H0 p o a = none
    rw [upd_ne hb]
    exact M.dom a h
  new := fun a h1 h2 => absurd h1 h2
  lkD := M.lkD
  sl := M.sl
  own := fun i c d a h1 h2 h3 => by
    obtain ⟨q1, q2, q3⟩ := M.own i c d a h1 h2 h3
    refine ⟨q1, ⟨q2.1, ?_⟩, q3⟩
    show upd F.Kp p o a = none
    rw [upd_ne (fun z => l.s i c d h1 h2 (by rw [← z]; exact h3))]
    exact q2.2
  ownO := fun i d a h1 h2 => by
    show upd F.H0 p o a = none
    rw [upd_ne (fun z => l.s i _ d h1 rfl (by rw [← z]; exact h2))]
    exact M.ownO i d a h1 h2
  inj := M.inj
  par := M.par
  len := M.len
  kn := fun a u e => by
    have e : upd F.Kp p o a = some u := e
    by_cases hb : a = p
    · subst hb; exact ⟨l.g, l.k.1⟩
    · rw [upd_ne hb] at e; exact M.kn a u e
theorem Mem.unguard {G2 : Hp} {L2 : Env'} {σ2 : St} {H2 : Hp} (M0 : Mem K F lk G L σ H) (l : Lone F lk G L σ p) (M : Mem K (F.grd G p o) lk G2 L2 σ2 H2) : Mem K F lk G2 L2 σ2 H2 ∧ H2 p = some o ∧ Lone F lk G2 L2 σ2 p := by
  have hp : H2 p = some o := M.kH p o (show upd F.Kp p o p = some o from upd_same)
  have g2 : G2 p = none := by
    cases q : G2 p with
    | none => rfl
    | some u =>
      have z : upd F.H0 p o p = none := M.new p l.g (by rw [q]; simp)
      rw [upd_same] at z; cases z
  have ns : ∀ (i : Nat) c d', L2[i]? = some (some c) → c.own = some d' → σ2[i]? ≠ some (some (.ref p)) := fun i c d' h1 h2 h3 => by
    obtain ⟨_, ⟨_, z⟩, _⟩ := M.own i c d' p h1 h2 h3
    have z : upd F.Kp p o p = none := z
    rw [upd_same] at z; cases z
  refine ⟨⟨M0.g0.trans M.g0, M.gH, M.bH, fun b u e => ?_, fun a h => ?_, fun a h1 h2 => ?_, M.lkD, M.sl, fun i c d a h1 h2 h3 => ?_, fun i d a h1 h2 => ?_, M.inj, M.par, M.len, fun a u e => ?_⟩, hp, ⟨g2, l.k, l.l, l.h, ns⟩⟩
  · have hb : b ≠ p := fun z => by rw [z, l.k.2] at e; cases e
    exact M.kH b u (by show upd F.Kp p o b = some u; rw [upd_ne hb]; exact e)
  · have z : upd F.H0 p o a = none := M.dom a h
    have hb : a ≠ p := fun z' => by rw [z', upd_same] at z; cases z
    rwa [upd_ne hb] at z
  · by_cases q : G a = none
    · have z : upd F.H0 p o a = none := M.new a q h2
      have hb : a ≠ p := fun z' => by rw [z', upd_same] at z; cases z
      rwa [upd_ne hb] at z
    · exact M0.new a h1 q
  · obtain ⟨q1, q2, q3⟩ := M.own i c d a h1 h2 h3
    have hb : a ≠ p := fun z => ns i c d h1 h2 (by rw [← z]; exact h3)
    refine ⟨q1, ⟨q2.1, ?_⟩, q3⟩
    have z : upd F.Kp p o a = none := q2.2
    rwa [upd_ne hb] at z
  · have hb : a ≠ p := fun z => ns i _ d h1 rfl (by rw [← z]; exact h2)
    have z : upd F.H0 p o a = none := M.ownO i d a h1 h2
    rwa [upd_ne hb] at z
  · refine M.kn a u ?_
    show upd F.Kp p o a = some u
    rw [upd_ne (fun z => by rw [z, l.k.2] at e; cases e)]; exact e
theorem XLk.guard {E : XK} {XQ : XP} (M0 : Mem K F lk G L σ H) (l : Lone F lk G L σ p) (x : XLk K F lk E XQ) : XLk K (F.grd G p o) lk E XQ := by
  refine ⟨x.1, fun G2 L2 σ2 H2 cls dx fs ds M h1 h2 h3 h4 => ?_⟩
  rcases x.1 with e | e
  · subst e
    obtain ⟨M', _, _⟩ := Mem.unguard M0 l M
    refine x.2 G2 L2 σ2 H2 cls dx fs ds M' h1 ?_ h3 h4
    have z : upd F.H0 p o dx = none := h2
    have hb : dx ≠ p := fun z' => by rw [z', upd_same] at z; cases z
    rwa [upd_ne hb] at z
  · exact absurd h4 (e _)
/-- .. another is in its place -/
theorem Mem.lone (M : Mem K F lk G L σ H) (l : Lone F lk G L σ p) : Mem K F lk G L σ (upd H p o) where
  g0 := M.g0
  gH := fun b u e => by
    have hb : b ≠ p := fun z => by
      subst z
      unfold lkd at e
      rw [l.l, l.g] at e; cases e
    rw [upd_ne hb]; exact M.gH b u e
  bH := fun b u e => by
    have hb : b ≠ p := fun z => by
      subst z
      unfold lkd at e
      rw [l.l, l.k.1] at e; cases e
    rw [upd_ne hb]; exact M.bH b u e
  kH := fun b u e => by
    rw [upd_ne (fun z => by rw [z, l.k.2] at e; cases e)]; exact M.kH b u e
  dom := fun a h => by
    have hb : a ≠ p := fun z => by rw [z, upd_same] at h; cases h
    rw [upd_ne hb] at h; exact M.dom a h
  new := M.new
  lkD := fun a ob h => by
    obtain ⟨kvs, h1, h2⟩ := M.lkD a ob h
    exact ⟨kvs, by rw [upd_ne (fun z => by rw [z, l.l] at h; cases h)]; exact h1, h2⟩
  sl := fun i c h => by
    obtain ⟨v, e, r⟩ := M.sl i c h
    refine ⟨v, e, ?_⟩
    cases c with
    | g d => exact r
    | b d => exact r
    | o d =>
      obtain ⟨a, rfl, ow⟩ := r
      exact ⟨a, rfl, ow.mono .refl (upd_ne fun z => l.s i _ d h rfl (by rw [← z]; exact e))⟩
    | p d =>
      obtain ⟨a, rfl, ow⟩ := r
      exact ⟨a, rfl, ow.mono .refl (upd_ne fun z => l.s i _ d h rfl (by rw [← z]; exact e))⟩
  own := M.own
  ownO := M.ownO
  inj := M.inj
  par := M.par
  len := M.len
  kn := M.kn
end
end QD

set_option Elab.async false
set_option linter.all false
set_option maxRecDepth 100000
set_option maxHeartbeats 4000000
namespace QD
open PySem PySem.Spec L2 PyProof.Rows
/-! one reading for all blocks of a comprehension -/
section
variable {X : Cx} {E : XK} {scope : Scope} {e : Expr} {es : List Expr}
abbrev blkOf (X : Cx) (scope : Scope) (s : Shared) (H : Hp) (C : Addr) (cl : List (Str × Addr)) (fp : List Addr) : Cx := X.blk s H scope (compEnvC scope cl C X.env) fp
theorem fam_g {u : UG} (h : ∀ s H C cl fp, DG (blkOf X scope s H C cl fp) E e u) : ∃ te : TE, (∀ s H C cl fp, PE (blkOf X scope s H C cl fp) e te) ∧
    ∀ F lk G L σ H Q QD XQ, Mem X.K F lk G L σ H → XLk X.K F lk E XQ → u XQ L QD → PostG X.K F lk G σ QD Q → te σ H Q := by
  refine ⟨fun σ H0 Q => ∀ s H C cl fp, (h s H C cl fp).ex.choose σ H0 Q, fun s H C cl fp => ⟨fun pins s' σ H' Q I q => (h s H C cl fp).ex.choose_spec.1.run pins s' σ H' Q I (q s H C cl fp)⟩, ?_⟩
  intro F lk G L σ H Q QD XQ M xl hu po s H' C cl fp
  exact (h s H' C cl fp).ex.choose_spec.2 F lk G L σ H Q QD XQ M xl hu po
theorem fam_tg {sl : List Nat} {w : UTg} (h : ∀ s H C cl fp, DTg (blkOf X scope s H C cl fp) e sl w) : ∃ g : TG, (∀ s H C cl fp, PG (blkOf X scope s H C cl fp) e g) ∧
    ∀ F lk G L σ H x a Q QD, Mem X.K F lk G L σ H → HR X.K F lk G L σ H x a → (∀ d, a ≠ .f d) → w L a QD →
    (∀ σ' G' L' H', Same G G' → Mem X.K F lk G' L' σ' H' → (∀ vs : List Nat, (∀ i ∈ sl, i ∈ vs) → wipe σ' vs = wipe σ vs) → QD L' → Q σ' H') → g x σ H Q := by
  refine ⟨fun x σ H0 Q => ∀ s H C cl fp, (h s H C cl fp).ex.choose x σ H0 Q, fun s H C cl fp => ⟨fun pins s' σ H' v u Q I r q => (h s H C cl fp).ex.choose_spec.1.run pins s' σ H' v u Q I r (q s H C cl fp)⟩, ?_⟩
  intro F lk G L σ H x a Q QD M r nf hu po s H' C cl fp
  exact (h s H' C cl fp).ex.choose_spec.2 F lk G L σ H x a Q QD M r nf hu po
structure DTs (X : Cx) (E : XK) (es : List Expr) (u : UT) : Prop where
  ex : ∃ t, PTs X es t ∧ ∀ F lk G L σ H Q QD XQ, Mem X.K F lk G L σ H → XLk X.K F lk E XQ → u XQ L QD → PostT X.K F lk G σ QD Q → t σ H Q
def uYes : UT := fun _ L QD => QD L true
theorem dts_nil : DTs X E [] uYes := ⟨_, pts_nil, fun F lk G L σ H Q QD XQ M xl hu po => po true H G L (.refl _) M hu⟩
theorem dts_one {u : UT} (h : DT X E e u) : DTs X E [e] u := by
  obtain ⟨t, p, ok⟩ := h.ex
  exact ⟨t, pts_one p, ok⟩
theorem fam_t {u : UT} (h : ∀ s H C cl fp, DTs (blkOf X scope s H C cl fp) E es u) : ∃ te : TT, (∀ s H C cl fp, PTs (blkOf X scope s H C cl fp) es te) ∧
    ∀ F lk G L σ H Q QD XQ, Mem X.K F lk G L σ H → XLk X.K F lk E XQ → u XQ L QD → PostT X.K F lk G σ QD Q → te σ H Q := by
  refine ⟨fun σ H0 Q => ∀ s H C cl fp, (h s H C cl fp).ex.choose σ H0 Q, fun s H C cl fp => ⟨fun pins s' σ H' Q I q => (h s H C cl fp).ex.choose_spec.1.run pins s' σ H' Q I (q s H C cl fp)⟩, ?_⟩
  intro F lk G L σ H Q QD XQ M xl hu po s H' C cl fp
  exact (h s H' C cl fp).ex.choose_spec.2 F lk G L σ H Q QD XQ M xl hu po
end
theorem wipe_in {σ : St} {i : Nat} : ∀ {vs : List Nat}, i ∈ vs → (wipe σ vs)[i]? = if i < σ.length then some none else none
  | [], h => by cases h
  | v :: vs, h => by
    unfold wipe
    rw [List.getElem?_set, wipe_length]
    by_cases hi : v = i
    · rw [if_pos hi, hi]
    · rw [if_neg hi]
      rcases List.mem_cons.mp h with z | z
      · exact absurd z.symm hi
      · exact wipe_in z
theorem wipe_wipe {σ : St} {vs : List Nat} : wipe (wipe σ vs) vs = wipe σ vs := by
  refine List.ext_getElem? fun i => ?_
  by_cases h : i ∈ vs
  · rw [wipe_in h, wipe_in h, wipe_length]
  · rw [wipe_out h]
/-! slots of a comprehension's own names -/
def wipeL (L : Env') : List Nat → Env'
  | [] => L
  | v :: vs => (wipeL L vs).set v none
def keepC (L : Env') (v : Nat) : Option C := match L[v]? with
  | some (some (.g d)) => some (.g d)
  | some (some (.b d)) => some (.b d)
  | _ => none
def restL (L Lc : Env') : List Nat → Env'
  | [] => Lc
  | v :: vs => (restL L Lc vs).set v (keepC L v)
theorem wipeL_some {L : Env'} {i : Nat} {c : C} : ∀ {vs : List Nat}, (wipeL L vs)[i]? = some (some c) → L[i]? = some (some c) ∧ i ∉ vs
  | [], h => ⟨h, by simp⟩
  | v :: vs, h => by
    unfold wipeL at h
    by_cases hi : v = i
    · subst hi
      rw [List.getElem?_set] at h
      split at h
      · split at h <;> cases h
      · rename_i z; exact absurd rfl z
    · rw [List.getElem?_set_ne hi] at h
      obtain ⟨h1, h2⟩ := wipeL_some h
      exact ⟨h1, by simp only [List.mem_cons, not_or]; exact ⟨fun e => hi e.symm, h2⟩⟩
theorem wipeL_out {L : Env'} {i : Nat} : ∀ {vs : List Nat}, i ∉ vs → (wipeL L vs)[i]? = L[i]?
  | [], _ => rfl
  | v :: vs, h => by
    unfold wipeL
    rw [List.getElem?_set_ne (fun z => h (by simp [z])), wipeL_out fun z => h (List.mem_cons_of_mem _ z)]
theorem wipeL_len {L : Env'} : ∀ {vs : List Nat}, (wipeL L vs).length = L.length
  | [] => rfl
  | v :: vs => by unfold wipeL; rw [List.length_set, wipeL_len]
theorem restL_len {L Lc : Env'} : ∀ {vs : List Nat}, (restL L Lc vs).length = Lc.length
  | [] => rfl
  | v :: vs => by unfold restL; rw [List.length_set, restL_len]
theorem keepC_some {L : Env'} {v : Nat} {c : C} (h : keepC L v = some c) : L[v]? = some (some c) ∧ c.own = none ∧ ∀ d, c ≠ .p d := by
  unfold keepC at h
  split at h
  · rename_i d e; cases h; exact ⟨e, rfl, fun _ z => nomatch z⟩
  · rename_i d e; cases h; exact ⟨e, rfl, fun _ z => nomatch z⟩
  · cases h
theorem restL_some {L Lc : Env'} {i : Nat} {c : C} : ∀ {vs : List Nat}, (restL L Lc vs)[i]? = some (some c) → (L[i]? = some (some c) ∧ c.own = none ∧ i ∈ vs) ∨ (i ∉ vs ∧ Lc[i]? = some (some c))
  | [], h => .inr ⟨by simp, h⟩
  | v :: vs, h => by
    unfold restL at h
    by_cases hi : v = i
    · subst hi
      rw [List.getElem?_set] at h
      split at h
      · split at h
        · have h := Option.some.inj h
          obtain ⟨h1, h2, _⟩ := keepC_some h
          exact .inl ⟨h1, h2, by simp⟩
        · cases h
      · rename_i z; exact absurd rfl z
    · rw [List.getElem?_set_ne hi] at h
      rcases restL_some h with ⟨h1, h2, h3⟩ | ⟨h1, h2⟩
      · exact .inl ⟨h1, h2, List.mem_cons_of_mem _ h3⟩
      · exact .inr ⟨by simp only [List.mem_cons, not_or]; exact ⟨fun e => hi e.symm, h1⟩, h2⟩
theorem restL_out {L Lc : Env'} {i : Nat} : ∀ {vs : List Nat}, i ∉ vs → (restL L Lc vs)[i]? = Lc[i]?
  | [], _ => rfl
  | v :: vs, h => by
    unfold restL
    rw [List.getElem?_set_ne (fun z => h (by simp [z])), restL_out fun z => h (List.mem_cons_of_mem _ z)]
section
variable {K : PySem.W.Frag} {F : FB} {lk : Lk} {G G' : Hp} {L Lc : Env'} {σ : St} {H H' : Hp}
theorem Mem.wipe (M : Mem K F lk G L σ H) (vs : List Nat) (hp : ∀ p ∈ F.pa, p.1 ∉ vs) : Mem K F lk G (wipeL L vs) (L2.wipe σ vs) H := by
  have at_ : ∀ {i : Nat} {c : C}, (wipeL L vs)[i]? = some (some c) → (L2.wipe σ vs)[i]? = σ[i]? := fun h => wipe_out (wipeL_some h).2
  refine ⟨M.g0, M.gH, M.bH, M.kH, M.dom, M.new, M.lkD, fun i c h => ?_, fun i c d a h1 h2 h3 => ?_, fun i d a h1 h2 => ?_, fun i j c c' d d' a h1 h2 h3 h4 h5 h6 => ?_, fun p hq => ?_, ?_, M.kn⟩
  · rw [at_ h]; exact M.sl i c (wipeL_some h).1
  · rw [at_ h1] at h3; exact M.own i c d a (wipeL_some h1).1 h2 h3
  · rw [at_ h1] at h2; exact M.ownO i d a (wipeL_some h1).1 h2
  · rw [at_ h1] at h5; rw [at_ h3] at h6
    exact M.inj i j c c' d d' a (wipeL_some h1).1 h2 (wipeL_some h3).1 h4 h5 h6
  · rw [wipe_out (hp p hq), wipeL_out (hp p hq)]; exact M.par p hq
  · rw [wipeL_len, wipe_length]; exact M.len
theorem Mem.rest (M : Mem K F lk G L σ H) (Mc : Mem K F lk G' Lc (L2.wipe σ vs) H') (s : Same G G') (hp : ∀ p ∈ F.pa, p.1 ∉ vs) : Mem K F lk G' (restL L Lc vs) σ H' := by
  have out : ∀ {i : Nat}, i ∉ vs → (L2.wipe σ vs)[i]? = σ[i]? := fun h => wipe_out h
  have own : ∀ {i : Nat} {c : C} {d : D}, (restL L Lc vs)[i]? = some (some c) → c.own = some d → i ∉ vs ∧ Lc[i]? = some (some c) := fun h e => by
    rcases restL_some h with ⟨_, z, _⟩ | z
    · rw [z] at e; cases e
    · exact z
  refine ⟨Mc.g0, Mc.gH, Mc.bH, Mc.kH, Mc.dom, Mc.new, Mc.lkD, fun i c h => ?_, fun i c d a h1 h2 h3 => ?_, fun i d a h1 h2 => ?_, fun i j c c' d d' a h1 h2 h3 h4 h5 h6 => ?_, fun p hq => ?_, ?_, Mc.kn⟩
  · rcases restL_some h with ⟨h1, h2, _⟩ | ⟨h1, h2⟩
    · obtain ⟨v, e, r⟩ := M.sl i c h1
      refine ⟨v, e, ?_⟩
      cases c with
      | g d => exact Rep.tr (Tr.same s) r
      | b d => exact r
      | o d => cases h2
      | p d => cases h2
    · obtain ⟨v, e, r⟩ := Mc.sl i c h2
      rw [out h1] at e
      exact ⟨v, e, r⟩
  · obtain ⟨z1, z2⟩ := own h1 h2
    exact Mc.own i c d a z2 h2 (by rw [out z1]; exact h3)
  · obtain ⟨z1, z2⟩ := own h1 rfl
    exact Mc.ownO i d a z2 (by rw [out z1]; exact h2)
  · obtain ⟨z1, z2⟩ := own h1 h2
    obtain ⟨z3, z4⟩ := own h3 h4
    exact Mc.inj i j c c' d d' a z2 h2 z4 h4 (by rw [out z1]; exact h5) (by rw [out z3]; exact h6)
  · have z := Mc.par p hq
    rw [out (hp p hq)] at z
    rw [restL_out (hp p hq)]; exact z
  · have z := Mc.len
    rw [wipe_length] at z
    rw [restL_len]; exact z
theorem pa_out (M : Mem K F lk G L σ H) {vs : List Nat} (h : vs.all (notP L) = true) : ∀ p ∈ F.pa, p.1 ∉ vs := fun p hp z => by
  obtain ⟨_, d, e⟩ := M.par p hp
  have q := List.all_eq_true.mp h _ z
  unfold notP at q
  rw [e] at q; cases q
theorem Lone.wipe {p : Addr} {vs : List Nat} (l : Lone F lk G L σ p) : Lone F lk G (wipeL L vs) (L2.wipe σ vs) p :=
  ⟨l.g, l.k, l.l, l.h, fun i c d h1 h2 h3 => l.s i c d (wipeL_some h1).1 h2 (by rwa [wipe_out (wipeL_some h1).2] at h3)⟩
theorem Lone.rest {p : Addr} {vs : List Nat} (l : Lone F lk G' Lc (L2.wipe σ vs) p) : Lone F lk G' (restL L Lc vs) σ p :=
  ⟨l.g, l.k, l.l, l.h, fun i c d h1 h2 h3 => by
    rcases restL_some h1 with ⟨_, z, _⟩ | ⟨z1, z2⟩
    · rw [z] at h2; cases h2
    · exact l.s i c d z2 h2 (by rw [wipe_out z1]; exact h3)⟩
end
/-! [e for t in it if ..] -/
def uCompI (wt : UTg) (ut : UT) (ue : UG) (vs : List Nat) (XQ : XP) : List A → List D → Env' → (Env' → List D → Prop) → Prop
  | [], acc, L, Q => Q L acc
  | a :: r, acc, L, Q => wt L a fun L1 => ut XQ L1 fun L2 b => if b = true then ue XQ L2 fun L3 d => acc.length < sizeLine ∧ uCompI wt ut ue vs XQ r (acc ++ [d]) (wipeL L3 vs) Q else uCompI wt ut ue vs XQ r acc (wipeL L2 vs) Q
def uComp (w : UI) (wt : UTg) (ut : UT) (ue : UG) (vs : List Nat) : UE := fun XQ L QD => w XQ L fun L' as => vs.all (notP L') = true ∧ uCompI wt ut ue vs XQ as [] (wipeL L' vs) fun L'' ds => QD (restL L' L'' vs) (.f (.lst ds))
def CoreE (X : Cx) (E : XK) (Z : ZP) (t : TE) (u : UE) : Prop := ∀ F lk G L σ H Q QD XQ, Mem X.K F lk G L σ H → Z F lk G L σ H → XLk X.K F lk E XQ → u XQ L QD → Post X.K F lk G σ QD Q → t σ H Q
theorem CoreE.set {X : Cx} {E : XK} {Z : ZP} {t : TE} {u : UE} {i : Nat} {st : Stmt} (h : CoreE X E Z t u) (ps : PS X st (tAsg t (gName i))) : DSz X E st Z (uSet i u) := by
  refine ⟨_, ps, fun F lk G L σ H Dn DD XQ M hz xl hu l => ?_⟩
  refine h F lk G L σ H _ _ XQ M hz xl hu fun v H1 G1 L1 a s1 M1 r1 q1 => ?_
  obtain ⟨L', M', q⟩ := M1.setA q1.1 r1 q1.2
  exact l.nx G1 L' _ H1 s1 M' q
theorem Reps.snoc {K : PySem.W.Frag} {G : Hp} {v : V} {d : D} : ∀ {vs ds}, Reps K G vs ds → Rep K G v d → Reps K G (vs ++ [v]) (ds ++ [d])
  | _, _, .nil, r => .cons r .nil
  | _, _, .cons q t, r => .cons q (t.snoc r)
section
variable {X : Cx} {E : XK} {tg iter elt : Expr} {ifs : List Expr} {scope : Scope} {w : UI} {wt : UTg} {ut : UT} {ue : UG} {sl vs : List Nat} {Z : ZP}
theorem lcz_core (hi : DIz X E tg iter Z w) (hg : ∀ s H C cl fp, DTg (blkOf X scope s H C cl fp) tg sl wt) (hsl : ∀ i ∈ sl, i ∈ vs) (ht : ∀ s H C cl fp, DTs (blkOf X scope s H C cl fp) E ifs ut) (he : ∀ s H C cl fp, DG (blkOf X scope s H C cl fp) E elt ue) :
    ∃ wi g tt te, PI X tg iter wi ∧ (∀ s H C cl fp, PG (blkOf X scope s H C cl fp) tg g) ∧ (∀ s H C cl fp, PTs (blkOf X scope s H C cl fp) ifs tt) ∧ (∀ s H C cl fp, PE (blkOf X scope s H C cl fp) elt te) ∧ CoreE X E Z (tLc wi g tt te vs) (uComp w wt ut ue vs) := by
  obtain ⟨wi, pi, oki⟩ := hi.ex
  obtain ⟨g, pg, okg⟩ := fam_tg hg
  obtain ⟨tt, pt, okt⟩ := fam_t ht
  obtain ⟨te, pe', oke⟩ := fam_g he
  refine ⟨wi, g, tt, te, pi, pg, pt, pe', fun F lk G L σ H Q QD XQ M hz xl hu po => ?_⟩
  refine oki F lk G L σ H _ _ XQ M hz xl hu fun J H1 G1 L1 as s1 M1 W q1 => ?_
  obtain ⟨hvs, q1⟩ := q1
  intro D hD
  have hp := pa_out M1 hvs
  obtain ⟨Gp, Y, wk, hG, hY⟩ := W.ex
  have M0 : Mem X.K F lk G1 L1 σ (upd H1 D (.lst [])) := M1.grow (same_upd hD)
  have l0 : Lone F lk G1 L1 σ D := ⟨M1.gnone hD, M1.bnone hD, M1.lknone hD, M1.dom D hD, M1.noaddr hD⟩
  refine lc_it wk (fun i H => ∃ G2 L2 av ad, Same G1 G2 ∧ Mem X.K F lk G2 L2 (wipe σ vs) H ∧ H D = some (.lst av) ∧ Reps X.K G2 av ad ∧ Lone F lk G2 L2 (wipe σ vs) D ∧
      uCompI wt ut ue vs XQ (as.drop i) ad L2 fun L'' ds => QD (restL L1 L'' vs) (.f (.lst ds)))
    ⟨G1, wipeL L1 vs, [], [], .refl _, M0.wipe vs hp, upd_same, .nil, l0.wipe, q1⟩ (fun i H _ ⟨G2, L2, av, ad, s2, M2, _⟩ => hG F.Kp F.H0 F.G0 G2 L2 _ H s2 M2) ?_ ?_
  · rintro i x H2 H3 hi ⟨G2, L2, av, ad, s2, M2, hDv, ra, l2, q2⟩ hy
    have e : as.drop i = as[i] :: as.drop (i + 1) := List.drop_eq_getElem_cons hi
    rw [e] at q2
    have Mg := M2.guard hDv l2
    have xg := XLk.guard (o := .lst av) M2 l2 xl
    obtain ⟨G3, s3, M3, r3, n3, n3'⟩ := hY i x as[i] _ _ _ G2 L2 _ H2 H3 (by simp [hi]) s2 Mg hy
    refine okg (F.grd G2 D (.lst av)) lk G3 L2 _ H3 x as[i] _ _ M3 r3 n3 q2 fun σ4 G4 L4 H4 s4 M4 hw q4 => ?_
    have hw' := hw vs hsl
    rw [wipe_wipe] at hw'
    refine ⟨hw', ?_⟩
    refine okt (F.grd G2 D (.lst av)) lk G4 L4 σ4 H4 _ _ XQ M4 xg q4 fun b H5 G5 L5 s5 M5 q5 => ?_
    have sx : Same G2 G5 := (s3.trans s4).trans s5
    cases b with
    | true =>
      refine iteT ?_
      refine oke (F.grd G2 D (.lst av)) lk G5 L5 σ4 H5 _ _ XQ M5 xg q5 fun y H6 G6 L6 d s6 M6 r6 q6 => ?_
      obtain ⟨M7, hD7, l7⟩ := Mem.unguard M2 l2 M6
      refine ⟨av, hD7, by rw [ra.len]; exact q6.1, G6, wipeL L6 vs, av ++ [y], ad ++ [d], s2.trans (sx.trans s6), ?_, upd_same, (ra.tr (Tr.same (sx.trans s6))).snoc r6, ?_, q6.2⟩
      · rw [← hw']; exact (M7.lone l7).wipe vs hp
      · rw [← hw']; exact l7.wipe
    | false =>
      refine iteF ?_
      obtain ⟨M7, hD7, l7⟩ := Mem.unguard M2 l2 M5
      refine ⟨G5, wipeL L5 vs, av, ad, s2.trans sx, ?_, hD7, ra.tr (Tr.same sx), ?_, q5⟩
      · rw [← hw']; exact M7.wipe vs hp
      · rw [← hw']; exact l7.wipe
  · rintro H2 ⟨G2, L2, av, ad, s2, M2, hDv, ra, l2, q2⟩
    rw [List.drop_eq_nil_of_le (Nat.le_refl _)] at q2
    have l3 : Lone F lk G2 (restL L1 L2 vs) σ D := l2.rest
    exact po (.ref D) H2 G2 (restL L1 L2 vs) (.f (.lst ad)) (s1.trans s2) (M1.rest M2 s2 hp) ⟨D, rfl, ⟨av, hDv, ra⟩, l3.g, l3.k, l3.l, l3.h, l3.s⟩ q2
theorem dx_lcz {e' : Expr} (pe : ∀ {wi g tt te}, PI X tg iter wi → (∀ s H C cl fp, PG (blkOf X scope s H C cl fp) tg g) → (∀ s H C cl fp, PTs (blkOf X scope s H C cl fp) ifs tt) → (∀ s H C cl fp, PE (blkOf X scope s H C cl fp) elt te) → PE X e' (tLc wi g tt te vs))
    (hi : DIz X E tg iter Z w) (hg : ∀ s H C cl fp, DTg (blkOf X scope s H C cl fp) tg sl wt) (hsl : ∀ i ∈ sl, i ∈ vs) (ht : ∀ s H C cl fp, DTs (blkOf X scope s H C cl fp) E ifs ut) (he : ∀ s H C cl fp, DG (blkOf X scope s H C cl fp) E elt ue) :
    DXz X E e' Z (uComp w wt ut ue vs) := by
  obtain ⟨wi, g, tt, te, p1, p2, p3, p4, k⟩ := lcz_core hi hg hsl ht he
  exact ⟨_, pe p1 p2 p3 p4, k⟩
theorem ds_lcz {st : Stmt} (i : Nat) (ps : ∀ {wi g tt te}, PI X tg iter wi → (∀ s H C cl fp, PG (blkOf X scope s H C cl fp) tg g) → (∀ s H C cl fp, PTs (blkOf X scope s H C cl fp) ifs tt) → (∀ s H C cl fp, PE (blkOf X scope s H C cl fp) elt te) → PS X st (tAsg (tLc wi g tt te vs) (gName i)))
    (hi : DIz X E tg iter Z w) (hg : ∀ s H C cl fp, DTg (blkOf X scope s H C cl fp) tg sl wt) (hsl : ∀ i ∈ sl, i ∈ vs) (ht : ∀ s H C cl fp, DTs (blkOf X scope s H C cl fp) E ifs ut) (he : ∀ s H C cl fp, DG (blkOf X scope s H C cl fp) E elt ue) :
    DSz X E st Z (uSet i (uComp w wt ut ue vs)) := by
  obtain ⟨wi, g, tt, te, p1, p2, p3, p4, k⟩ := lcz_core hi hg hsl ht he
  exact k.set (ps p1 p2 p3 p4)
end
end QD

set_option Elab.async false
set_option linter.all false
set_option maxRecDepth 100000
set_option maxHeartbeats 4000000
namespace QD
open PySem PySem.Spec L2 PyProof.Rows
/-! what is walked: shared or lent -/
def escA (L : Env') (QD : Env' → A → Prop) : A → Prop
  | .g d => QD L (.g d)
  | .f d => QD L (.g d)
  | .b d => QD L (.b d)
  | .sl i => match L[i]? with
    | some (some (.o d)) => QD (L.set i (some (.g d))) (.g d)
    | _ => False
structure DB (X : Cx) (E : XK) (e : Expr) (u : UE) : Prop where
  ex : ∃ t, PE X e t ∧ ∀ F lk G L σ H Q QD XQ, Mem X.K F lk G L σ H → XLk X.K F lk E XQ → u XQ L QD →
    (∀ v H' G' L' d, Same G G' → Mem X.K F lk G' L' σ H' → ((Rep X.K G' v d ∧ QD L' (.g d)) ∨ (Rep X.K F.B v d ∧ QD L' (.b d))) → Q v H') → t σ H Q
def uEsc (u : UE) : UE := fun XQ L QD => u XQ L fun L' a => escA L' QD a
theorem db_of {X : Cx} {E : XK} {e : Expr} {u : UE} (h : DX X E e u) : DB X E e (uEsc u) := by
  obtain ⟨t, pe, ok⟩ := h.ex
  refine ⟨t, pe, fun F lk G L σ H Q QD XQ M xl hu po => ok F lk G L σ H Q _ XQ M xl hu fun v H' G' L' a s M' r q => ?_⟩
  cases a with
  | f d =>
    obtain ⟨G2, s2, M2, r2⟩ := M'.freeze r
    exact po v H' G2 L' d (s.trans s2) M2 (.inl ⟨r2, q⟩)
  | g d => exact po v H' G' L' d s M' (.inl ⟨r, q⟩)
  | b d => exact po v H' G' L' d s M' (.inr ⟨r, q⟩)
  | sl i =>
    have q : (match L'[i]? with | some (some (.o d)) => QD (L'.set i (some (.g d))) (.g d) | _ => False) := q
    split at q
    · rename_i d hi
      obtain ⟨G2, s2, M2, r2⟩ := M'.toShared hi r
      exact po v H' G2 _ d (s.trans s2) M2 (.inl ⟨r2, q⟩)
    · exact q.elim
theorem wlk_same {K : PySem.W.Frag} {F : FB} {lk : Lk} {G : Hp} {J : It} {as : List A} {xs : List V} {Gp : Hp → Prop} (wk : Walk J as.length Gp (YAt xs)) (hG : ∀ Kp H0 G0 G1 L1 σ1 H1, Same G G1 → Mem K ⟨H0, G0, F.B, F.pa, Kp⟩ lk G1 L1 σ1 H1 → Gp H1)
    (hx : ∀ (i : Nat) x a, xs[i]? = some x → as[i]? = some a → (∃ d, a = .g d ∧ Rep K G x d) ∨ (∃ d, a = .b d ∧ Rep K F.B x d)) : Wlk K F lk G J as := by
  refine ⟨Gp, YAt xs, wk, hG, fun i x a Kp H0 G0 G1 L1 σ1 H1 H2 e s M y => ?_⟩
  obtain ⟨rfl, y⟩ := y
  rcases hx i x a y e with ⟨d, rfl, r⟩ | ⟨d, rfl, r⟩
  · exact ⟨G1, .refl _, M, Rep.tr (Tr.same s) r, (fun _ z => nomatch z), (fun _ z => nomatch z)⟩
  · exact ⟨G1, .refl _, M, r, (fun _ z => nomatch z), (fun _ z => nomatch z)⟩
theorem Reps.at {K : PySem.W.Frag} {G : Hp} : ∀ {vs ds} {i : Nat} {v : V} {d : D}, Reps K G vs ds → vs[i]? = some v → ds[i]? = some d → Rep K G v d
  | _, _, i, v, d, .nil, h, _ => by simp at h
  | _, _, 0, v, d, .cons r t, h, h' => by simp at h h'; subst h h'; exact r
  | _, _, i + 1, v, d, .cons r t, h, h' => t.at (i := i) (by simpa using h) (by simpa using h')
/-- the items of a list, shared or lent -/
def itemsA (a : A) (ds : List D) : List A := ds.map a.el
def uItL (u : UE) : UI := fun XQ L QD => u XQ L fun L' a => ∃ ds, a.get L' = some (.lst ds) ∧ QD L' (itemsA a ds)
def uItT (u : UE) : UI := fun XQ L QD => u XQ L fun L' a => ∃ ds, a.get L' = some (.tup ds) ∧ QD L' (itemsA a ds)
def strA (z : Str) : List A := z.cps.toList.map fun c => .g (.str ⟨#[c]⟩)
def uItS (u : UE) : UI := fun XQ L QD => u XQ L fun L' a => ∃ z, a.get L' = some (.str z) ∧ QD L' (strA z)
def rangeA (lo : Int) (n : Nat) : List A := (List.range n).map fun i => .g (.int (lo + (i : Nat)))
def uRng1 (w : UA) : UI := fun XQ L QD => w XQ L fun L' as => ∃ j, getAll L' as = some [.int j] ∧ -(2 ^ 62) ≤ j ∧ j < 2 ^ 62 ∧ QD L' (rangeA 0 j.toNat)
def uRng2 (w : UA) : UI := fun XQ L QD => w XQ L fun L' as => ∃ i j, getAll L' as = some [.int i, .int j] ∧ (-(2 ^ 62) ≤ i ∧ i < 2 ^ 62 ∧ -(2 ^ 62) ≤ j ∧ j < 2 ^ 62) ∧ QD L' (rangeA i (j - i).toNat)
theorem els_at {K : PySem.W.Frag} {F : FB} {G : Hp} {a : A} {vs : List V} {ds : List D} (rs : Reps K (eh F G a) vs ds) : ∀ (i : Nat) x c, vs[i]? = some x → (itemsA a ds)[i]? = some c → (∃ d, c = .g d ∧ Rep K G x d) ∨ (∃ d, c = .b d ∧ Rep K F.B x d) := fun i x c h1 h2 => by
  unfold itemsA at h2
  rw [List.getElem?_map] at h2
  cases q : ds[i]? with
  | none => rw [q] at h2; cases h2
  | some d =>
    rw [q] at h2
    cases h2
    have r := rs.at h1 q
    cases a with
    | b x0 =>
      by_cases hf : d.flat = true
      · exact .inl ⟨d, if_pos hf, r.flat hf⟩
      · exact .inr ⟨d, if_neg hf, r⟩
    | g x0 => exact .inl ⟨d, rfl, r⟩
    | sl x0 => exact .inl ⟨d, rfl, r⟩
    | f x0 => exact .inl ⟨d, rfl, r⟩
section
variable {X : Cx} {E : XK} {tg iter e : Expr} {es : List Expr} {u : UE} {w : UA}
theorem di_list (h : DB X E e u) : DI X E tg e (uItL u) := by
  obtain ⟨t, pe, ok⟩ := h.ex
  refine ⟨_, pi_list pe, fun F lk G L σ H R QD XQ M _ xl hu po => ?_⟩
  refine ok F lk G L σ H _ _ XQ M xl hu fun v H' G' L' d s M' q => ?_
  rcases q with ⟨r, ds, e, q⟩ | ⟨r, ds, e, q⟩
  · cases e
    cases r with
    | lst sq rs =>
      rename_i a vs
      have hl : (itemsA (.g (.lst ds)) ds).length = vs.length := by unfold itemsA; rw [List.length_map, rs.len]
      refine ⟨a, rfl, ⟨vs, M'.trG.l _ _ sq⟩, po (Itl X.K a) H' G' L' _ s M' (wlk_same (xs := vs) (Gp := fun H => SqL X.K H a vs) (by rw [hl]; exact walk_list) (fun Kp H0 G0 G1 L1 σ1 H1 s1 M1 => M1.trG.l _ _ (s1.seq sq)) (els_at (F := F) (a := .g (.lst ds)) rs)) q⟩
  · cases e
    cases r with
    | lst sq rs =>
      rename_i a vs
      have hl : (itemsA (.b (.lst ds)) ds).length = vs.length := by unfold itemsA; rw [List.length_map, rs.len]
      refine ⟨a, rfl, ⟨vs, M'.trB.l _ _ sq⟩, po (Itl X.K a) H' G' L' _ s M' (wlk_same (xs := vs) (Gp := fun H => SqL X.K H a vs) (by rw [hl]; exact walk_list) (fun Kp H0 G0 G1 L1 σ1 H1 s1 M1 => M1.trB.l _ _ sq) (els_at (F := F) (a := .b (.lst ds)) rs)) q⟩
theorem di_tup (h : DB X E e u) : DI X E tg e (uItT u) := by
  obtain ⟨t, pe, ok⟩ := h.ex
  refine ⟨_, pi_tup pe, fun F lk G L σ H R QD XQ M _ xl hu po => ?_⟩
  refine ok F lk G L σ H _ _ XQ M xl hu fun v H' G' L' d s M' q => ?_
  rcases q with ⟨r, ds, e, q⟩ | ⟨r, ds, e, q⟩
  · cases e
    cases r with
    | tup sq rs =>
      rename_i a vs
      have hl : (itemsA (.g (.tup ds)) ds).length = vs.length := by unfold itemsA; rw [List.length_map, rs.len]
      refine ⟨a, rfl, ⟨vs, M'.trG.t _ _ sq⟩, po (Itt X.K a) H' G' L' _ s M' (wlk_same (xs := vs) (Gp := fun H => SqT X.K H a vs) (by rw [hl]; exact walk_tup) (fun Kp H0 G0 G1 L1 σ1 H1 s1 M1 => M1.trG.t _ _ (sqT_same s1 sq)) (els_at (F := F) (a := .g (.tup ds)) rs)) q⟩
  · cases e
    cases r with
    | tup sq rs =>
      rename_i a vs
      have hl : (itemsA (.b (.tup ds)) ds).length = vs.length := by unfold itemsA; rw [List.length_map, rs.len]
      refine ⟨a, rfl, ⟨vs, M'.trB.t _ _ sq⟩, po (Itt X.K a) H' G' L' _ s M' (wlk_same (xs := vs) (Gp := fun H => SqT X.K H a vs) (by rw [hl]; exact walk_tup) (fun Kp H0 G0 G1 L1 σ1 H1 s1 M1 => M1.trB.t _ _ sq) (els_at (F := F) (a := .b (.tup ds)) rs)) q⟩
theorem di_str (h : DX X E e u) : DI X E tg e (uItS u) := by
  obtain ⟨t, pe, ok⟩ := h.ex
  refine ⟨_, pi_str pe, fun F lk G L σ H R QD XQ M _ xl hu po => ?_⟩
  refine ok F lk G L σ H _ _ XQ M xl hu fun v H' G' L' a s M' r q => ?_
  obtain ⟨z, e, q⟩ := q
  have r := M'.rep r e
  cases r
  have hl : (strA z).length = z.cps.size := by unfold strA; simp
  refine ⟨z, rfl, po _ H' G' L' _ s M' ⟨fun _ => True, _, by rw [hl]; exact walk_str, fun _ _ _ _ _ _ _ _ _ => trivial, fun i x a Kp H0 G0 G1 L1 σ1 H1 H2 e s1 M1 y => ?_⟩ q⟩
  obtain ⟨rfl, c, hc, rfl⟩ := y
  unfold strA at e
  rw [List.getElem?_map] at e
  have hc' : z.cps.toList[i]? = some c := by simpa using hc
  rw [hc'] at e
  cases e
  exact ⟨G1, .refl _, M1, .str _, (fun _ z => nomatch z), (fun _ z => nomatch z)⟩
theorem wlk_range {K : PySem.W.Frag} {F : FB} {lk : Lk} {G : Hp} {lo : Int} {n : Nat} : Wlk K F lk G (Itr lo n) (rangeA lo n) := by
  have hl : (rangeA lo n).length = n := by unfold rangeA; simp
  refine ⟨fun _ => True, _, by rw [hl]; exact walk_range, fun _ _ _ _ _ _ _ _ _ => trivial, fun i x a Kp H0 G0 G1 L1 σ1 H1 H2 e s1 M1 y => ?_⟩
  obtain ⟨rfl, rfl⟩ := y
  unfold rangeA at e
  rw [List.getElem?_map] at e
  cases q : (List.range n)[i]? with
  | none => rw [q] at e; cases e
  | some j =>
    rw [q] at e
    have hj : j = i := by
      obtain ⟨h1, h2⟩ := List.getElem?_eq_some_iff.mp q
      simpa using h2.symm
    subst hj
    cases e
    exact ⟨G1, .refl _, M1, .int _, (fun _ z => nomatch z), (fun _ z => nomatch z)⟩
theorem reps1 {K : PySem.W.Frag} {H : Hp} {vs : List V} {j : Int} (r : Reps K H vs [.int j]) : vs = [.int j] := by
  cases r with
  | cons r t => cases r; cases t; rfl
theorem di_range1 (pi : ∀ {ta}, PA X es ta → PI X tg e (iRng1 ta)) (h : DA X E es w) : DI X E tg e (uRng1 w) := by
  obtain ⟨t, pa, ok⟩ := h.ex
  refine ⟨_, pi pa, fun F lk G L σ H R QD XQ M _ xl hu po => ?_⟩
  refine ok F lk G L σ H _ _ XQ M xl hu fun vs H' G' L' as s M' r n q => ?_
  obtain ⟨j, e, h1, h2, q⟩ := q
  exact ⟨j, reps1 (M'.reps r e), h1, h2, po _ H' G' L' _ s M' wlk_range q⟩
theorem di_range2 (pi : ∀ {ta}, PA X es ta → PI X tg e (iRng2 ta)) (h : DA X E es w) : DI X E tg e (uRng2 w) := by
  obtain ⟨t, pa, ok⟩ := h.ex
  refine ⟨_, pi pa, fun F lk G L σ H R QD XQ M _ xl hu po => ?_⟩
  refine ok F lk G L σ H _ _ XQ M xl hu fun vs H' G' L' as s M' r n q => ?_
  obtain ⟨i, j, e, hb, q⟩ := q
  have rr := M'.reps r e
  have ev : vs = [.int i, .int j] := by
    cases rr with
    | cons r t => cases r; rw [reps1 t]
  exact ⟨i, j, ev, hb, po _ H' G' L' _ s M' wlk_range q⟩
end

/-! paths: what they give is known ahead -/
def LkExt (H H2 : Hp) : Prop := ∀ b o, H b = some o → H2 b = some o ∨ ∃ ob kvs, o = .dK kvs ∧ H2 b = some (.frz ob o)
theorem LkExt.refl (H : Hp) : LkExt H H := fun _ _ h => .inl h
abbrev UP := Env' → Option A
structure DPt (X : Cx) (e : Expr) (f : UP) (t : TE) : Prop where
  pe : PE X e t
  ok : ∀ F lk G L σ H a, Mem X.K F lk G L σ H → f L = some a → ∃ v, HR X.K F lk G L σ H v a ∧ (∀ d, a ≠ .f d) ∧ ∀ H2 Q, LkExt H H2 → Q v H2 → t σ H2 Q
structure DP (X : Cx) (e : Expr) (f : UP) : Prop where
  mk' ::
  ext : ∃ t, DPt X e f t
theorem DP.mk {X : Cx} {e : Expr} {f : UP} (h : ∃ t, PE X e t ∧ ∀ F lk G L σ H a, Mem X.K F lk G L σ H → f L = some a → ∃ v, HR X.K F lk G L σ H v a ∧ (∀ d, a ≠ .f d) ∧ ∀ H2 Q, LkExt H H2 → Q v H2 → t σ H2 Q) : DP X e f := by
  obtain ⟨t, a, b⟩ := h
  exact ⟨t, a, b⟩
theorem DP.ex {X : Cx} {e : Expr} {f : UP} (h : DP X e f) : ∃ t, PE X e t ∧ ∀ F lk G L σ H a, Mem X.K F lk G L σ H → f L = some a → ∃ v, HR X.K F lk G L σ H v a ∧ (∀ d, a ≠ .f d) ∧ ∀ H2 Q, LkExt H H2 → Q v H2 → t σ H2 Q := by
  obtain ⟨t, a, b⟩ := h.ext
  exact ⟨t, a, b⟩
def uP (f : UP) : UE := fun _ L QD => ∃ a, f L = some a ∧ QD L a
def pVar (i : Nat) : UP := fun L => match L[i]? with
  | some (some (.g d)) => some (.g d)
  | some (some (.b d)) => some (.b d)
  | some (some (.o _)) => some (.sl i)
  | some (some (.p _)) => some (.sl i)
  | _ => none
def pFld (C : Addr) (n : Str) (f : UP) : UP := fun L => (f L).bind fun a => match a.get L with
  | some (.ins C' gs) => if C' = C then (gs.lookup n).map a.el else none
  | _ => none
def atD (ds : List D) (i : Int) : Option D := atI ds i
def pIxT (i : Int) (f : UP) : UP := fun L => (f L).bind fun a => match a.get L with
  | some (.tup ds) => (atI ds i).map a.el
  | _ => none
def pIxL (i : Int) (f : UP) : UP := fun L => (f L).bind fun a => match a.get L with
  | some (.lst ds) => (atI ds i).map a.el
  | _ => none
theorem LkExt.sqL {K : PySem.W.Frag} {H H2 : Hp} {a : Addr} {xs : List V} (l : LkExt H H2) (h : SqL K H a xs) : SqL K H2 a xs := by
  rcases h with (h | ⟨o, h⟩) | h
  · rcases l _ _ h with q | ⟨_, _, q, _⟩
    · exact .inl (.inl q)
    · cases q
  · rcases l _ _ h with q | ⟨_, _, q, _⟩
    · exact .inl (.inr ⟨o, q⟩)
    · cases q
  · exact .inr h
theorem LkExt.sqT {K : PySem.W.Frag} {H H2 : Hp} {a : Addr} {xs : List V} (l : LkExt H H2) (h : SqT K H a xs) : SqT K H2 a xs := by
  rcases h with (h | ⟨o, h⟩) | h
  · rcases l _ _ h with q | ⟨_, _, q, _⟩
    · exact .inl (.inl q)
    · cases q
  · rcases l _ _ h with q | ⟨_, _, q, _⟩
    · exact .inl (.inr ⟨o, q⟩)
    · cases q
  · exact .inr h
theorem atI_map {vs : List V} {ds : List D} {K : PySem.W.Frag} {G : Hp} (rs : Reps K G vs ds) {i : Int} {d : D} (h : atI ds i = some d) : ∃ v, atI vs i = some v ∧ Rep K G v d := by
  unfold atI at h ⊢
  rw [rs.len]
  cases q : ixN ds.length i with
  | none => rw [q] at h; cases h
  | some j =>
    rw [q] at h
    have h : ds[j]? = some d := h
    have hj : j < vs.length := by rw [rs.len]; exact (List.getElem?_eq_some_iff.mp h).1
    exact ⟨vs[j], by show vs[j]? = _; simp [hj], rs.at (by simp [hj]) h⟩
section
variable {X : Cx} {E : XK} {e : Expr} {f : UP} {pos : Pos}
theorem do_p (h : DP X e f) : DO X E e (uP f) := by
  obtain ⟨t, pe, ok⟩ := h.ex
  refine ⟨t, pe, fun F lk G L σ H Q QD XQ M xl hu po => ?_⟩
  obtain ⟨a, e, q⟩ := hu
  obtain ⟨v, r, nf, k⟩ := ok F lk G L σ H a M e
  exact k H Q (.refl H) (po v H G L a (.refl _) M r nf q)
theorem dp_var' {i : Nat} {x : Str} (h : PE X (.Name x pos) (tVar i)) : DP X (.Name x pos) (pVar i) := by
  refine .mk ⟨_, h, fun F lk G L σ H a M e => ?_⟩
  unfold pVar at e
  split at e
  · rename_i d e1; cases e
    obtain ⟨v, e2, r⟩ := M.sl i _ e1
    exact ⟨v, r, (fun _ z => nomatch z), fun H2 Q _ q => ⟨v, e2, q⟩⟩
  · rename_i d e1; cases e
    obtain ⟨v, e2, r⟩ := M.sl i _ e1
    exact ⟨v, r, (fun _ z => nomatch z), fun H2 Q _ q => ⟨v, e2, q⟩⟩
  · rename_i d e1; cases e
    obtain ⟨v, e2, r⟩ := M.sl i _ e1
    exact ⟨v, e2, (fun _ z => nomatch z), fun H2 Q _ q => ⟨v, e2, q⟩⟩
  · rename_i d e1; cases e
    obtain ⟨v, e2, r⟩ := M.sl i _ e1
    exact ⟨v, e2, (fun _ z => nomatch z), fun H2 Q _ q => ⟨v, e2, q⟩⟩
  · cases e
theorem dp_var (i : Nat) {x : Str} (hN : X.N[i]? = some x := by rfl) (hv : Vis X.env.scope x := by first | exact Or.inl rfl | exact Or.inr (Or.inl rfl) | exact Or.inr (Or.inr rfl)) (hd : (x == ("__debug__" : Str)) = false := by decide)
    (hcd : (x == ("__classdict__" : Str)) = false := by decide) : DP X (.Name x pos) (pVar i) := dp_var' (pe_var hN hv hd hcd)
theorem dp_fld {C : Addr} {n : Str} (h : DP X e f) (c : Cls X.K C) (na : NoAttr X.K C n) (hb : attributeBase e n X.env (eval e X.env) = eval e X.env := by rfl) : DP X (.Attribute e n pos) (pFld C n f) := by
  obtain ⟨t, pe, ok⟩ := h.ex
  refine .mk ⟨_, pe_fld pe hb, fun F lk G L σ H a M e => ?_⟩
  unfold pFld at e
  cases q : f L with
  | none => rw [q] at e; cases e
  | some a0 =>
    rw [q] at e
    obtain ⟨v, r, nf, k⟩ := ok F lk G L σ H a0 M q
    have e : (match a0.get L with | some (.ins C' gs) => if C' = C then (gs.lookup n).map a0.el else none | _ => none) = some a := e
    split at e
    · rename_i C' gs eg
      by_cases hC : C' = C
      · subst hC
        rw [if_pos rfl] at e
        cases ql : gs.lookup n with
        | none => rw [ql] at e; cases e
        | some d =>
          rw [ql] at e; cases e
          obtain ⟨p, dx, fs, rfl, hp, rf⟩ := ins_of M r eg
          obtain ⟨w, e1, r1⟩ := rf.lookup.1 d ql
          refine ⟨w, HR.el r1, fun _ => el_nf, fun H2 Q l qq => k H2 _ l ⟨p, C', dx, fs, w, rfl, ?_, c, na, e1, qq⟩⟩
          rcases l _ _ hp with z | ⟨_, _, z, _⟩
          · exact z
          · cases z
      · rw [if_neg hC] at e; cases e
    · cases e
theorem dp_ixT {i : Int} {ix : Expr} (h : DP X e f) (hi : PE X ix (tC (.int i))) (hp : PlainIx ix) : DP X (.Subscript e ix pos) (pIxT i f) := by
  obtain ⟨t, pe, ok⟩ := h.ex
  refine .mk ⟨_, pe_ix ix_tup pe hi hp, fun F lk G L σ H a M e => ?_⟩
  unfold pIxT at e
  cases q : f L with
  | none => rw [q] at e; cases e
  | some a0 =>
    rw [q] at e
    obtain ⟨v, r, nf, k⟩ := ok F lk G L σ H a0 M q
    have e : (match a0.get L with | some (.tup ds) => (atI ds i).map a0.el | _ => none) = some a := e
    split at e
    · rename_i ds eg
      cases ql : atI ds i with
      | none => rw [ql] at e; cases e
      | some d =>
        rw [ql] at e; cases e
        obtain ⟨p, vs, rfl, sq, rs⟩ := M.vw r eg
        obtain ⟨w, e1, r1⟩ := atI_map rs ql
        exact ⟨w, HR.el r1, fun _ => el_nf, fun H2 Q l qq => k H2 _ l ⟨p, vs, i, w, rfl, rfl, l.sqT sq, e1, qq⟩⟩
    · cases e
theorem dp_ixL {i : Int} {ix : Expr} (h : DP X e f) (hi : PE X ix (tC (.int i))) (hp : PlainIx ix) : DP X (.Subscript e ix pos) (pIxL i f) := by
  obtain ⟨t, pe, ok⟩ := h.ex
  refine .mk ⟨_, pe_ix ix_list pe hi hp, fun F lk G L σ H a M e => ?_⟩
  unfold pIxL at e
  cases q : f L with
  | none => rw [q] at e; cases e
  | some a0 =>
    rw [q] at e
    obtain ⟨v, r, nf, k⟩ := ok F lk G L σ H a0 M q
    have e : (match a0.get L with | some (.lst ds) => (atI ds i).map a0.el | _ => none) = some a := e
    split at e
    · rename_i ds eg
      cases ql : atI ds i with
      | none => rw [ql] at e; cases e
      | some d =>
        rw [ql] at e; cases e
        obtain ⟨p, vs, rfl, sq, rs⟩ := M.vw r eg
        obtain ⟨w, e1, r1⟩ := atI_map rs ql
        exact ⟨w, HR.el r1, fun _ => el_nf, fun H2 Q l qq => k H2 _ l ⟨p, vs, i, w, rfl, rfl, l.sqL sq, e1, qq⟩⟩
    · cases e
end
end QD

set_option Elab.async false
set_option linter.all false
set_option maxRecDepth 100000
set_option maxHeartbeats 4000000
namespace QD
open PySem PySem.Spec L2 PyProof.Rows
/-! dicts that are walked are locked -/
def lkS (lk : Lk) (d : Addr) (od : Obj) : Lk := fun a => if a = d then some od else lk a
theorem lkS_ne {lk : Lk} {d a : Addr} {od : Obj} (h : a ≠ d) : lkS lk d od a = lk a := if_neg h
theorem lkS_same {lk : Lk} {d : Addr} {od : Obj} : lkS lk d od d = some od := if_pos rfl
section
variable {K : PySem.W.Frag} {F : FB} {lk : Lk} {G G' : Hp} {L L' : Env'} {σ σ' : St} {H H' : Hp} {d : Addr} {od : Obj} {kvs : List (Key × V)} {v : V}
theorem Mem.lk_of (M : Mem K F lk G L σ H) (h : H d = some (.dK kvs)) : lk d = none := by
  cases e : lk d with
  | none => rfl
  | some ob =>
    obtain ⟨k, q, _⟩ := M.lkD d ob e
    rw [h] at q; cases q
theorem Mem.gd (M : Mem K F lk G L σ H) (h : H d = some (.dK kvs)) {o : HO} (e : G d = some o) : o = .dK kvs := by
  have q := M.gH d o (by unfold lkd; rw [M.lk_of h]; exact e)
  rw [h] at q; cases q; rfl
theorem Mem.bd (M : Mem K F lk G L σ H) (h : H d = some (.dK kvs)) {o : HO} (e : F.B d = some o) : o = .dK kvs := by
  have q := M.bH d o (by unfold lkd; rw [M.lk_of h]; exact e)
  rw [h] at q; cases q; rfl
theorem lkd_S {G0 : Hp} {b : Addr} (hb : b ≠ d) : lkd (lkS lk d od) G0 b = lkd lk G0 b := by unfold lkd; rw [lkS_ne hb]
theorem Mem.lock (M : Mem K F lk G L σ H) (h : H d = some (.dK kvs)) (hd : G d ≠ none ∨ F.B d ≠ none) : Mem K F (lkS lk d od) G L σ (upd H d (.frz od (.dK kvs))) := by
  have ne : ∀ {i : Nat} {c : C} {x : D} {a : Addr}, L[i]? = some (some c) → c.own = some x → σ[i]? = some (some (.ref a)) → a ≠ d := fun h1 h2 h3 z => by
    obtain ⟨q1, q2, _⟩ := M.own _ _ _ _ h1 h2 h3
    rcases hd with y | y
    · exact y (by rw [← z]; exact q1)
    · exact y (by rw [← z]; exact q2.1)
  have part : ∀ {G0 : Hp}, Same (lkd lk G0) H → (∀ o, G0 d = some o → o = .dK kvs) → Same (lkd (lkS lk d od) G0) (upd H d (.frz od (.dK kvs))) := fun {G0} s hk b o e => by
    by_cases hb : b = d
    · subst hb
      unfold lkd at e
      rw [lkS_same] at e
      have e : (G0 b).map (HO.frz od) = some o := e
      cases q : G0 b with
      | none => rw [q] at e; cases e
      | some u => rw [q, hk u q] at e; cases e; exact upd_same
    · rw [lkd_S hb] at e
      rw [upd_ne hb]; exact s b o e
  refine ⟨M.g0, part M.gH fun o e => M.gd h e, part M.bH fun o e => M.bd h e, fun b o e => ?_, fun a e => ?_, M.new, fun a ob e => ?_, fun i c q => ?_, fun i c x a h1 h2 h3 => ?_, M.ownO, M.inj, M.par, M.len, M.kn⟩
  · have hb : b ≠ d := fun z => by
      subst z
      obtain ⟨q1, q2⟩ := M.kn b o e
      exact hd.elim (fun y => y q1) fun y => y q2
    rw [upd_ne hb]; exact M.kH b o e
  · have hb : a ≠ d := fun z => by rw [z, upd_same] at e; cases e
    rw [upd_ne hb] at e; exact M.dom a e
  · by_cases hb : a = d
    · subst hb
      rw [lkS_same] at e; cases e
      exact ⟨kvs, upd_same, fun o e => M.gd h e, fun o e => M.bd h e⟩
    · rw [lkS_ne hb] at e
      obtain ⟨k, q1, q2⟩ := M.lkD a ob e
      exact ⟨k, by rw [upd_ne hb]; exact q1, q2⟩
  · obtain ⟨v, e, r⟩ := M.sl i c q
    refine ⟨v, e, ?_⟩
    cases c with
    | g x => exact r
    | b x => exact r
    | o x => obtain ⟨a, rfl, ow⟩ := r; exact ⟨a, rfl, ow.mono .refl (upd_ne (ne q rfl e))⟩
    | p x => obtain ⟨a, rfl, ow⟩ := r; exact ⟨a, rfl, ow.mono .refl (upd_ne (ne q rfl e))⟩
  · obtain ⟨q1, q2, q3⟩ := M.own i c x a h1 h2 h3
    exact ⟨q1, q2, by rw [lkS_ne (ne h1 h2 h3)]; exact q3⟩
theorem Mem.unlock (M : Mem K F (lkS lk d od) G' L' σ' H') (hl : lk d = none) (hd : (∃ o, G' d = some o ∧ o = .dK kvs) ∨ (∃ o, F.B d = some o ∧ o = .dK kvs)) : H' d = some (.frz od (.dK kvs)) ∧ Mem K F lk G' L' σ' (upd H' d (.dK kvs)) := by
  obtain ⟨k, h1, h2, h3⟩ := M.lkD d od lkS_same
  have hk : k = kvs := by
    rcases hd with ⟨o, e, z⟩ | ⟨o, e, z⟩
    · have q := h2 o e; rw [z] at q; cases q; rfl
    · have q := h3 o e; rw [z] at q; cases q; rfl
  subst hk
  have ne : ∀ {i : Nat} {c : C} {x : D} {a : Addr}, L'[i]? = some (some c) → c.own = some x → σ'[i]? = some (some (.ref a)) → a ≠ d := fun h1 h2 h3 z => by
    obtain ⟨_, _, q3⟩ := M.own _ _ _ _ h1 h2 h3
    rw [z, lkS_same] at q3; cases q3
  have part : ∀ {G0 : Hp}, Same (lkd (lkS lk d od) G0) H' → (∀ o, G0 d = some o → o = .dK k) → Same (lkd lk G0) (upd H' d (.dK k)) := fun {G0} s hk b o e => by
    by_cases hb : b = d
    · subst hb
      unfold lkd at e
      rw [hl] at e
      have e : G0 b = some o := e
      rw [upd_same, hk o e]
    · rw [upd_ne hb]; exact s b o (by rw [lkd_S hb]; exact e)
  refine ⟨h1, M.g0, part M.gH h2, part M.bH h3, fun b o e => ?_, fun a e => ?_, M.new, fun a ob e => ?_, fun i c q => ?_, fun i c x a q1 q2 q3 => ?_, M.ownO, M.inj, M.par, M.len, M.kn⟩
  · have hb : b ≠ d := fun z => by
      subst z
      obtain ⟨q1, q2⟩ := M.kn b o e
      rcases hd with ⟨o, e, _⟩ | ⟨o, e, _⟩
      · rw [q1] at e; cases e
      · rw [q2] at e; cases e
    rw [upd_ne hb]; exact M.kH b o e
  · have hb : a ≠ d := fun z => by rw [z, upd_same] at e; cases e
    rw [upd_ne hb] at e; exact M.dom a e
  · have hb : a ≠ d := fun z => by rw [z, hl] at e; cases e
    obtain ⟨k, q1, q2⟩ := M.lkD a ob (by rw [lkS_ne hb]; exact e)
    exact ⟨k, by rw [upd_ne hb]; exact q1, q2⟩
  · obtain ⟨v, e, r⟩ := M.sl i c q
    refine ⟨v, e, ?_⟩
    cases c with
    | g x => exact r
    | b x => exact r
    | o x => obtain ⟨a, rfl, ow⟩ := r; exact ⟨a, rfl, ow.mono .refl (upd_ne (ne q rfl e))⟩
    | p x => obtain ⟨a, rfl, ow⟩ := r; exact ⟨a, rfl, ow.mono .refl (upd_ne (ne q rfl e))⟩
  · obtain ⟨y1, y2, y3⟩ := M.own i c x a q1 q2 q3
    exact ⟨y1, y2, by rw [lkS_ne (ne q1 q2 q3)] at y3; exact y3⟩
theorem HR.unlock {a : A} (r : HR K F (lkS lk d od) G L σ H v a) : HR K F lk G L σ (upd H d (.dK kvs)) v a := by
  cases a with
  | g x => exact r
  | b x => exact r
  | sl i => exact r
  | f x =>
    obtain ⟨p, rfl, ow, h1, h2, h3, h4, h5⟩ := r
    have hb : p ≠ d := fun z => by rw [z, lkS_same] at h3; cases h3
    exact ⟨p, rfl, ow.mono .refl (upd_ne hb), h1, h2, by rw [lkS_ne hb] at h3; exact h3, h4, h5⟩
end
/-- the dict at the path is locked -/
def Zf (K : PySem.W.Frag) (f : UP) (t : TE) : ZP := fun F lk G L σ H => ∀ a, f L = some a → ∃ d od kvs, HR K F lk G L σ H (.ref d) a ∧ H d = some (.frz od (.dK kvs)) ∧ ∀ Q : VK, Q (.ref d) H → t σ H Q
def isGB : A → Bool
  | .g _ => true
  | .b _ => true
  | _ => false
/-- it is a dict, shared or lent -/
def dictAt (f : UP) (L : Env') (a : A) (kds : List (Key × D)) : Prop := f L = some a ∧ isGB a = true ∧ a.get L = some (.dic kds)
section
variable {X : Cx} {E : XK} {e e' : Expr} {f : UP} {t : TE} {st : Stmt}
/-- where it stands -/
theorem dict_at {K : PySem.W.Frag} {F : FB} {lk : Lk} {G : Hp} {L : Env'} {σ : St} {H : Hp} {v : V} {a : A} {kds : List (Key × D)} (M : Mem K F lk G L σ H) (r : HR K F lk G L σ H v a) (hg : isGB a = true) (e : a.get L = some (.dic kds)) :
    ∃ d kvs, v = .ref d ∧ RepK K (eh F G a) kvs kds ∧ ((H d = some (.dK kvs) ∧ (G d = some (.dK kvs) ∨ F.B d = some (.dK kvs))) ∨ ∃ od, H d = some (.frz od (.dK kvs))) ∧ ((∃ u, G d = some u) ∨ ∃ u, F.B d = some u) := by
  have key : ∀ {G0 : Hp} {d : Addr} {kvs : List (Key × V)}, Same (lkd lk G0) H → LkOk lk G0 → Rd G0 d (.dK kvs) → (H d = some (.dK kvs) ∧ G0 d = some (.dK kvs)) ∨ ∃ od, H d = some (.frz od (.dK kvs)) := fun {G0 d kvs} s ok rd => by
    rcases rd with q | ⟨o, q⟩
    · rcases lkd_some (lk := lk) q with z | ⟨ob, _, z⟩
      · exact .inl ⟨s _ _ z, q⟩
      · exact .inr ⟨ob, s _ _ z⟩
    · exact .inr ⟨o, s _ _ (lkd_plain ok q (fun _ z => nomatch z))⟩
  have some_ : ∀ {G0 : Hp} {d : Addr} {kvs : List (Key × V)}, Rd G0 d (.dK kvs) → ∃ u, G0 d = some u := fun rd => by
    rcases rd with q | ⟨o, q⟩
    · exact ⟨_, q⟩
    · exact ⟨_, q⟩
  cases a with
  | g x =>
    cases e
    have r : Rep K G v (.dic kds) := r
    cases r with
    | dic rd rk =>
      refine ⟨_, _, rfl, rk, ?_, .inl (some_ rd)⟩
      rcases key M.gH M.okG rd with ⟨z1, z2⟩ | z
      · exact .inl ⟨z1, .inl z2⟩
      · exact .inr z
  | b x =>
    cases e
    have r : Rep K F.B v (.dic kds) := r
    cases r with
    | dic rd rk =>
      refine ⟨_, _, rfl, rk, ?_, .inr (some_ rd)⟩
      rcases key M.bH M.okB rd with ⟨z1, z2⟩ | z
      · exact .inl ⟨z1, .inr z2⟩
      · exact .inr z
  | sl i => cases hg
  | f x => cases hg
theorem lkext {H : Hp} {d : Addr} {kvs : List (Key × V)} {od : Obj} (h : H d = some (.dK kvs)) : LkExt H (upd H d (.frz od (.dK kvs))) := fun b o e => by
  by_cases hb : b = d
  · subst hb
    rw [h] at e; cases e
    exact .inr ⟨od, kvs, rfl, upd_same⟩
  · exact .inl (by rw [upd_ne hb]; exact e)
theorem HR.lock {K : PySem.W.Frag} {F : FB} {lk lk' : Lk} {G : Hp} {L : Env'} {σ : St} {H H' : Hp} {v : V} {a : A} (r : HR K F lk G L σ H v a) (hg : isGB a = true) : HR K F lk' G L σ H' v a := by
  cases a with
  | g x => exact r
  | b x => exact r
  | sl i => cases hg
  | f x => cases hg
/-- the dict is locked for the time of an expression -/
theorem dx_lock {u : UE} (h : DPt X e f t) (hz : DXz X E e' (Zf X.K f t) u) (hu : ∀ XQ L QD, u XQ L QD → ∃ a kds, dictAt f L a kds) : DX X E e' (fun _ L QD => u noX L QD) := by
  obtain ⟨t', pe, ok⟩ := hz.ex
  refine ⟨fun σ H Q => t' σ H Q ∨ tLockE t' σ H Q, ⟨fun pins s σ H Q I q => q.elim (fun q => pe.run pins s σ H Q I q) fun q => (pe_lock pe).run pins s σ H Q I q⟩, fun F lk G L σ H Q QD XQ M xl hw po => ?_⟩
  obtain ⟨a, kds, hf, hg, hk⟩ := hu _ _ _ hw
  obtain ⟨v, r, nf, k⟩ := h.ok F lk G L σ H a M hf
  obtain ⟨d, kvs, rfl, rk, hH, hd⟩ := dict_at M r hg hk
  have xn : ∀ lk', XLk X.K F lk' E noX := fun lk' => ⟨.inr fun _ z => z, fun _ _ _ _ _ _ _ _ _ _ _ _ z => z.elim⟩
  rcases hH with ⟨hH, hGB⟩ | ⟨od, hH⟩
  · refine .inr ⟨d, .dK kvs, hH, trivial, fun od => ?_⟩
    have hd' : G d ≠ none ∨ F.B d ≠ none := hd.elim (fun ⟨u, e⟩ => .inl (by rw [e]; simp)) fun ⟨u, e⟩ => .inr (by rw [e]; simp)
    have Ml := M.lock (od := od) hH hd'
    refine ok F (lkS lk d od) G L σ _ _ QD noX Ml (fun a' e => ?_) (xn _) hw fun v' H' G' L' a' s M' r' q => ?_
    · rw [hf] at e; cases e
      exact ⟨d, od, kvs, r.lock hg, upd_same, fun Q q => k _ Q (lkext hH) q⟩
    · have hd2 : (∃ o, G' d = some o ∧ o = .dK kvs) ∨ (∃ o, F.B d = some o ∧ o = .dK kvs) := hGB.elim (fun z => .inl ⟨_, s _ _ z, rfl⟩) fun z => .inr ⟨_, z, rfl⟩
      obtain ⟨e1, Mu⟩ := M'.unlock (M.lk_of hH) hd2
      exact ⟨e1, po v' _ G' L' a' s Mu r'.unlock q⟩
  · exact .inl (ok F lk G L σ H Q QD noX M (fun a' e => by
      rw [hf] at e; cases e
      exact ⟨d, od, kvs, r, hH, fun Q q => k H Q (.refl H) q⟩) (xn _) hw po)
/-- .. of a statement -/
theorem ds_lock {u : US} (h : DPt X e f t) (hz : DSz X E st (Zf X.K f t) u) (hu : ∀ XQ L DD, u XQ DD L → ∃ a kds, dictAt f L a kds) : DS X E st (fun _ DD L => u noX DD L) := by
  obtain ⟨t', pe, ok⟩ := hz.ex
  refine ⟨fun D σ H => t' D σ H ∨ tLock t' D σ H, ⟨fun pins s σ H D I q => q.elim (fun q => pe.run pins s σ H D I q) fun q => (ps_lock pe).run pins s σ H D I q⟩, fun F lk G L σ H Dn DD XQ M xl hw l => ?_⟩
  obtain ⟨a, kds, hf, hg, hk⟩ := hu _ _ _ hw
  obtain ⟨v, r, nf, k⟩ := h.ok F lk G L σ H a M hf
  obtain ⟨d, kvs, rfl, rk, hH, hd⟩ := dict_at M r hg hk
  have xn : ∀ lk', XLk X.K F lk' E noX := fun lk' => ⟨.inr fun _ z => z, fun _ _ _ _ _ _ _ _ _ _ _ _ z => z.elim⟩
  rcases hH with ⟨hH, hGB⟩ | ⟨od, hH⟩
  · refine .inr ⟨d, .dK kvs, hH, trivial, fun od => ?_⟩
    have hd' : G d ≠ none ∨ F.B d ≠ none := hd.elim (fun ⟨u, e⟩ => .inl (by rw [e]; simp)) fun ⟨u, e⟩ => .inr (by rw [e]; simp)
    have Ml := M.lock (od := od) hH hd'
    have hd2 : ∀ G', Same G G' → (∃ o, G' d = some o ∧ o = .dK kvs) ∨ (∃ o, F.B d = some o ∧ o = .dK kvs) := fun G' s => hGB.elim (fun z => .inl ⟨_, s _ _ z, rfl⟩) fun z => .inr ⟨_, z, rfl⟩
    refine ok F (lkS lk d od) G L σ _ _ DD noX Ml (fun a' e => ?_) (xn _) hw ⟨fun G' L' σ' H' s M' q => ?_, fun G' L' σ' H' s M' q => ?_, fun G' L' σ' H' s M' q => ?_, fun v' G' L' σ' H' rr s M' hr q => ?_⟩
    · rw [hf] at e; cases e
      exact ⟨d, od, kvs, r.lock hg, upd_same, fun Q q => k _ Q (lkext hH) q⟩
    · obtain ⟨e1, Mu⟩ := M'.unlock (M.lk_of hH) (hd2 G' s)
      exact ⟨e1, l.nx G' L' σ' _ s Mu q⟩
    · obtain ⟨e1, Mu⟩ := M'.unlock (M.lk_of hH) (hd2 G' s)
      exact ⟨e1, l.bk G' L' σ' _ s Mu q⟩
    · obtain ⟨e1, Mu⟩ := M'.unlock (M.lk_of hH) (hd2 G' s)
      exact ⟨e1, l.ct G' L' σ' _ s Mu q⟩
    · obtain ⟨e1, Mu⟩ := M'.unlock (M.lk_of hH) (hd2 G' s)
      refine ⟨e1, l.rt v' G' L' σ' _ rr s Mu ?_ q⟩
      cases rr with
      | s x => exact hr
      | o x =>
        obtain ⟨p, rfl, ow, h1, h2, h3⟩ := hr
        have hb : p ≠ d := fun z => by
          rcases hd2 G' s with ⟨o, e, _⟩ | ⟨o, e, eo⟩
          · rw [← z, h1] at e; cases e
          · rw [← z, h3.1] at e; cases e
        exact ⟨p, rfl, ow.mono .refl (upd_ne hb), h1, h2, h3⟩
  · exact .inl (ok F lk G L σ H Dn DD noX M (fun a' e => by
      rw [hf] at e; cases e
      exact ⟨d, od, kvs, r, hH, fun Q q => k H Q (.refl H) q⟩) (xn _) hw l)
end
end QD

set_option Elab.async false
set_option linter.all false
set_option maxRecDepth 100000
set_option maxHeartbeats 4000000
namespace QD
open PySem PySem.Spec L2 PyProof.Rows
def keyD : Key → D
  | .inl i => .int i
  | .inr x => .str x
theorem keyD_rep {K : PySem.W.Frag} {G : Hp} (k : Key) : Rep K G (kV k) (keyD k) := by
  cases k with
  | inl i => exact .int i
  | inr x => exact .str x
def keysA (kds : List (Key × D)) : List A := kds.map fun p => .g (keyD p.1)
def valsA (a : A) (kds : List (Key × D)) : List A := kds.map fun p => a.el p.2
def itemsKA (kds : List (Key × D)) : List A := kds.map fun p => .g (.tup [keyD p.1, p.2])
/-- the pairs may be shared -/
def pairsOk (a : A) (kds : List (Key × D)) : Bool := match a with
  | .b _ => kds.all fun p => p.2.flat
  | _ => true
def uKeysP (f : UP) : UI := fun _ L QD => ∃ a kds, dictAt f L a kds ∧ QD L (keysA kds)
def uValsP (f : UP) : UI := fun _ L QD => ∃ a kds, dictAt f L a kds ∧ QD L (valsA a kds)
def uItemsP (f : UP) : UI := fun _ L QD => ∃ a kds, dictAt f L a kds ∧ pairsOk a kds = true ∧ QD L (itemsKA kds)
theorem RepK.at {K : PySem.W.Frag} {G : Hp} : ∀ {vs ds} {i : Nat} {k : Key} {v : V}, RepK K G vs ds → vs[i]? = some (k, v) → ∃ d, ds[i]? = some (k, d) ∧ Rep K G v d
  | _, _, i, k, v, .nil, h => by simp at h
  | _, _, 0, k, v, .cons r t, h => by simp at h; obtain ⟨rfl, rfl⟩ := h; exact ⟨_, rfl, r⟩
  | _, _, i + 1, k, v, .cons r t, h => by
    obtain ⟨d, h1, h2⟩ := t.at (i := i) (by simpa using h)
    exact ⟨d, by simpa using h1, h2⟩
theorem RepK.len {K : PySem.W.Frag} {G : Hp} : ∀ {vs ds}, RepK K G vs ds → vs.length = ds.length
  | _, _, .nil => rfl
  | _, _, .cons _ t => by simp [t.len]
section
variable {K : PySem.W.Frag} {F : FB} {lk : Lk} {G : Hp} {L : Env'} {σ : St} {H : Hp}
/-- a locked dict stays so -/
theorem frz_stay (M : Mem K F lk G L σ H) {d : Addr} {od : Obj} {kvs : List (Key × V)} (h : H d = some (.frz od (.dK kvs))) (hd : (∃ u, G d = some u) ∨ ∃ u, F.B d = some u) :
    ∀ Kp H0 G0 G1 L1 σ1 H1, Same G G1 → Mem K ⟨H0, G0, F.B, F.pa, Kp⟩ lk G1 L1 σ1 H1 → H1 d = some (.frz od (.dK kvs)) := fun Kp H0 G0 G1 L1 σ1 H1 s M1 => by
  rcases hd with ⟨u, e⟩ | ⟨u, e⟩
  · rcases lkd_some (lk := lk) e with z | ⟨ob, z0, z⟩
    · have q := M.gH _ _ z
      rw [h] at q; cases q
      refine M1.gH d _ ?_
      rcases lkd_some (lk := lk) (s d _ e) with y | ⟨ob, y0, _⟩
      · exact y
      · unfold lkd at z
        rw [y0] at z
        have z : (G d).map (HO.frz ob) = some _ := z
        rw [e] at z; cases z
    · have q := M.gH _ _ z
      rw [h] at q
      have e1 : lkd lk G1 d = some (.frz ob u) := by unfold lkd; rw [z0]; show (G1 d).map _ = _; rw [s d _ e]; rfl
      exact (M1.gH d _ e1).trans q.symm
  · rcases lkd_some (lk := lk) e with z | ⟨ob, z0, z⟩
    · have q := M.bH _ _ z
      rw [h] at q; cases q
      exact M1.bH d _ z
    · have q := M.bH _ _ z
      exact (M1.bH d _ z).trans (q.symm.trans h)
theorem wlk_keys {J : It} {d : Addr} {od : Obj} {kvs : List (Key × V)} {kds : List (Key × D)} (hs : ∀ Kp H0 G0 G1 L1 σ1 H1, Same G G1 → Mem K ⟨H0, G0, F.B, F.pa, Kp⟩ lk G1 L1 σ1 H1 → H1 d = some (.frz od (.dK kvs))) {E : Hp} (rk : RepK K E kvs kds) :
    Wlk K F lk G (Itk d od kvs) (keysA kds) := by
  have hl : (keysA kds).length = kvs.length := by unfold keysA; rw [List.length_map, rk.len]
  refine ⟨_, _, by rw [hl]; exact walk_keys, hs, fun i x a Kp H0 G0 G1 L1 σ1 H1 H2 e s M1 y => ?_⟩
  obtain ⟨rfl, k, v, e1, rfl⟩ := y
  obtain ⟨dd, e2, _⟩ := rk.at e1
  unfold keysA at e
  rw [List.getElem?_map, e2] at e
  cases e
  exact ⟨G1, .refl _, M1, keyD_rep k, (fun _ z => nomatch z), (fun _ z => nomatch z)⟩
theorem wlk_vals {d : Addr} {od : Obj} {kvs : List (Key × V)} {kds : List (Key × D)} {a : A} (hs : ∀ Kp H0 G0 G1 L1 σ1 H1, Same G G1 → Mem K ⟨H0, G0, F.B, F.pa, Kp⟩ lk G1 L1 σ1 H1 → H1 d = some (.frz od (.dK kvs))) (rk : RepK K (eh F G a) kvs kds) :
    Wlk K F lk G (Itd d od kvs) (valsA a kds) := by
  have hl : (valsA a kds).length = kvs.length := by unfold valsA; rw [List.length_map, rk.len]
  refine ⟨_, _, by rw [hl]; exact walk_values, hs, fun i x c Kp H0 G0 G1 L1 σ1 H1 H2 e s M1 y => ?_⟩
  obtain ⟨rfl, k, e1⟩ := y
  obtain ⟨dd, e2, r⟩ := rk.at e1
  unfold valsA at e
  rw [List.getElem?_map, e2] at e
  have e : a.el dd = c := Option.some.inj e
  subst e
  refine ⟨G1, .refl _, M1, ?_, fun _ => el_nf, fun _ => el_ns⟩
  cases a with
  | g z => exact HR.el (a := .g z) (Rep.tr (Tr.same s) r)
  | sl z => exact HR.el (a := .sl z) (Rep.tr (Tr.same s) r)
  | f z => exact HR.el (a := .f z) (Rep.tr (Tr.same s) r)
  | b z => exact HR.el (a := .b z) (F := ⟨H0, G0, F.B, F.pa, Kp⟩) r
theorem wlk_items {d : Addr} {od : Obj} {kvs : List (Key × V)} {kds : List (Key × D)} {a : A} (hs : ∀ Kp H0 G0 G1 L1 σ1 H1, Same G G1 → Mem K ⟨H0, G0, F.B, F.pa, Kp⟩ lk G1 L1 σ1 H1 → H1 d = some (.frz od (.dK kvs))) (rk : RepK K (eh F G a) kvs kds) (hp : pairsOk a kds = true) :
    Wlk K F lk G (Iti d od kvs) (itemsKA kds) := by
  have hl : (itemsKA kds).length = kvs.length := by unfold itemsKA; rw [List.length_map, rk.len]
  refine ⟨_, _, by rw [hl]; exact walk_items, hs, fun i x c Kp H0 G0 G1 L1 σ1 H1 H2 e s M1 y => ?_⟩
  obtain ⟨T, xk, xv, rfl, hT, rfl, e1, e2⟩ := y
  have e1 : kvs[i]?.map (fun kv => kV kv.1) = some xk := e1
  have e2 : kvs[i]?.map Prod.snd = some xv := e2
  cases q : kvs[i]? with
  | none => rw [q] at e1; cases e1
  | some kv =>
    obtain ⟨k, v⟩ := kv
    rw [q] at e1 e2
    cases e1; cases e2
    obtain ⟨dd, e3, r⟩ := rk.at q
    unfold itemsKA at e
    rw [List.getElem?_map, e3] at e
    cases e
    obtain ⟨M2, s2⟩ := M1.madeG (o := .tup [kV k, v]) hT
    refine ⟨_, s2, M2, ?_, (fun _ z => nomatch z), (fun _ z => nomatch z)⟩
    refine Rep.tup (.of upd_same) (.cons (keyD_rep k) (.cons ?_ .nil))
    have T2 : Tr K G1 (upd G1 T (.tup [kV k, v])) := Tr.same s2
    cases a with
    | g z => exact Rep.tr ((Tr.same s).trans T2) r
    | sl z => exact Rep.tr ((Tr.same s).trans T2) r
    | f z => exact Rep.tr ((Tr.same s).trans T2) r
    | b z =>
      have hp : (kds.all fun p => p.2.flat) = true := hp
      have hf := List.all_eq_true.mp hp (k, dd) (List.mem_of_getElem? e3)
      exact r.flat hf
end
section
variable {X : Cx} {E : XK} {tg e it : Expr} {f : UP} {t : TE}
theorem zf_at {F : FB} {lk : Lk} {G : Hp} {L : Env'} {σ : St} {H : Hp} {a : A} {kds : List (Key × D)} (M : Mem X.K F lk G L σ H) (hz : Zf X.K f t F lk G L σ H) (h : dictAt f L a kds) :
    ∃ d od kvs, H d = some (.frz od (.dK kvs)) ∧ (∀ Q : VK, Q (.ref d) H → t σ H Q) ∧ RepK X.K (eh F G a) kvs kds ∧ ((∃ u, G d = some u) ∨ ∃ u, F.B d = some u) := by
  obtain ⟨hf, hg, hk⟩ := h
  obtain ⟨d, od, kvs, r, hH, k⟩ := hz a hf
  obtain ⟨d', kvs', e, rk, hh, hd⟩ := dict_at M r hg hk
  cases e
  refine ⟨d, od, kvs, hH, k, ?_, hd⟩
  rcases hh with ⟨z, _⟩ | ⟨od', z⟩
  · rw [hH] at z; cases z
  · rw [hH] at z; cases z; exact rk
theorem di_keysP (h : DPt X e f t) : DIz X E tg e (Zf X.K f t) (uKeysP f) := by
  refine ⟨_, pi_keys h.pe, fun F lk G L σ H R QD XQ M hz xl hu po => ?_⟩
  obtain ⟨a, kds, ha, q⟩ := hu
  obtain ⟨d, od, kvs, hH, k, rk, hd⟩ := zf_at M hz ha
  exact k _ ⟨d, od, rfl, .inl ⟨kvs, hH, po _ H G L _ (.refl _) M (wlk_keys (J := Itk d od kvs) (frz_stay M hH hd) rk) q⟩⟩
theorem di_valsP (h : DPt X e f t) (pi : ∀ {td}, PE X e td → PI X tg it (iVals td)) : DIz X E tg it (Zf X.K f t) (uValsP f) := by
  refine ⟨_, pi h.pe, fun F lk G L σ H R QD XQ M hz xl hu po => ?_⟩
  obtain ⟨a, kds, ha, q⟩ := hu
  obtain ⟨d, od, kvs, hH, k, rk, hd⟩ := zf_at M hz ha
  exact k _ ⟨d, od, kvs, rfl, hH, po _ H G L _ (.refl _) M (wlk_vals (frz_stay M hH hd) rk) q⟩
theorem di_itemsP (h : DPt X e f t) (pi : ∀ {td}, PE X e td → PI X tg it (iItems td)) : DIz X E tg it (Zf X.K f t) (uItemsP f) := by
  refine ⟨_, pi h.pe, fun F lk G L σ H R QD XQ M hz xl hu po => ?_⟩
  obtain ⟨a, kds, ha, hp, q⟩ := hu
  obtain ⟨d, od, kvs, hH, k, rk, hd⟩ := zf_at M hz ha
  exact k _ ⟨d, od, kvs, rfl, hH, po _ H G L _ (.refl _) M (wlk_items (frz_stay M hH hd) rk hp) q⟩

/-! a new dict is locked for ever -/
def tLkA (te : TE) : TE := fun σ H Q => te σ H fun x H1 => ∃ d u, x = .ref d ∧ H1 d = some u ∧ Mut (some u) ∧ ∀ od, Q x (upd H1 d (.frz od u))
theorem pe_lkA {te : TE} (h : PE X e te) : PE X e (tLkA te) := by
  refine ⟨fun pins s σ H Q I q => thn (h.run pins s σ H _ I q) fun v s1 ⟨x, H1, I1, r, d, u, e, hd, mu, k⟩ => ?_⟩
  obtain ⟨od, I2⟩ := I1.lock hd mu
  exact ⟨x, _, I2, r, k od⟩
def uItemsF (u : UE) : UI := fun XQ L QD => u XQ L fun L' a => ∃ kds, a = .f (.dic kds) ∧ QD L' (itemsKA kds)
def uValsF (u : UE) : UI := fun XQ L QD => u XQ L fun L' a => ∃ kds, a = .f (.dic kds) ∧ QD L' (valsA a kds)
def uKeysF (u : UE) : UI := fun XQ L QD => u XQ L fun L' a => ∃ kds, a = .f (.dic kds) ∧ QD L' (keysA kds)
theorem fresh_lock {K : PySem.W.Frag} {F : FB} {lk : Lk} {G : Hp} {L : Env'} {σ : St} {H : Hp} {v : V} {kds : List (Key × D)} (M : Mem K F lk G L σ H) (r : HR K F lk G L σ H v (.f (.dic kds))) :
    ∃ d kvs, v = .ref d ∧ H d = some (.dK kvs) ∧ ∀ od, ∃ G', Same G G' ∧ Mem K F lk G' L σ (upd H d (.frz od (.dK kvs))) ∧ RepK K G' kvs kds ∧ G' d = some (.frz od (.dK kvs)) := by
  obtain ⟨d, rfl, ⟨kvs, hd, rk⟩, h1, h2, h3, h4, h5⟩ := r
  refine ⟨d, kvs, rfl, hd, fun od => ?_⟩
  have M1 := M.lone (o := .frz od (.dK kvs)) (p := d) ⟨h1, h2, h3, h4, h5⟩
  exact ⟨upd G d (.frz od (.dK kvs)), same_upd h1, M1.share upd_same h1 h2.2 h3 h4 h5, rk.tr (Tr.same (same_upd h1)), upd_same⟩
theorem di_itemsF {u : UE} (h : DX X E e u) (pi : ∀ {td}, PE X e td → PI X tg it (iItems td)) : DI X E tg it (uItemsF u) := by
  obtain ⟨t, pe, ok⟩ := h.ex
  refine ⟨_, pi (pe_lkA pe), fun F lk G L σ H R QD XQ M _ xl hu po => ?_⟩
  refine ok F lk G L σ H _ _ XQ M xl hu fun v H1 G1 L1 a s1 M1 r1 q1 => ?_
  obtain ⟨kds, rfl, q⟩ := q1
  obtain ⟨d, kvs, rfl, hd, k⟩ := fresh_lock M1 r1
  refine ⟨d, _, rfl, hd, trivial, fun od => ?_⟩
  obtain ⟨G', s2, M2, rk, hG⟩ := k od
  exact ⟨d, od, kvs, rfl, upd_same, po _ _ G' L1 _ (s1.trans s2) M2 (wlk_items (a := .g (.dic kds)) (frz_stay M2 upd_same (.inl ⟨_, hG⟩)) rk rfl) q⟩
theorem di_valsF {u : UE} (h : DX X E e u) (pi : ∀ {td}, PE X e td → PI X tg it (iVals td)) : DI X E tg it (uValsF u) := by
  obtain ⟨t, pe, ok⟩ := h.ex
  refine ⟨_, pi (pe_lkA pe), fun F lk G L σ H R QD XQ M _ xl hu po => ?_⟩
  refine ok F lk G L σ H _ _ XQ M xl hu fun v H1 G1 L1 a s1 M1 r1 q1 => ?_
  obtain ⟨kds, rfl, q⟩ := q1
  obtain ⟨d, kvs, rfl, hd, k⟩ := fresh_lock M1 r1
  refine ⟨d, _, rfl, hd, trivial, fun od => ?_⟩
  obtain ⟨G', s2, M2, rk, hG⟩ := k od
  exact ⟨d, od, kvs, rfl, upd_same, po _ _ G' L1 _ (s1.trans s2) M2 (wlk_vals (a := .f (.dic kds)) (frz_stay M2 upd_same (.inl ⟨_, hG⟩)) rk) q⟩
theorem di_keysF {u : UE} (h : DX X E e u) : DI X E tg e (uKeysF u) := by
  obtain ⟨t, pe, ok⟩ := h.ex
  refine ⟨_, pi_keys (pe_lkA pe), fun F lk G L σ H R QD XQ M _ xl hu po => ?_⟩
  refine ok F lk G L σ H _ _ XQ M xl hu fun v H1 G1 L1 a s1 M1 r1 q1 => ?_
  obtain ⟨kds, rfl, q⟩ := q1
  obtain ⟨d, kvs, rfl, hd, k⟩ := fresh_lock M1 r1
  refine ⟨d, _, rfl, hd, trivial, fun od => ?_⟩
  obtain ⟨G', s2, M2, rk, hG⟩ := k od
  exact ⟨d, od, rfl, .inl ⟨kvs, upd_same, po _ _ G' L1 _ (s1.trans s2) M2 (wlk_keys (J := Itk d od kvs) (frz_stay M2 upd_same (.inl ⟨_, hG⟩)) rk) q⟩⟩
end

/-! {k: v for t in it if ..} -/
def dkey : D → Option Key
  | .int i => some (.inl i)
  | .str x => some (.inr x)
  | _ => none
def putD (kds : List (Key × D)) (k : Key) (d : D) : List (Key × D) :=
  if (kds.any fun kv => decide (kv.1 = k)) = true then kds.map fun kv => if kv.1 = k then (kv.1, d) else kv else kds ++ [(k, d)]
def uDcI (wt : UTg) (ut : UT) (uk uv : UG) (vs : List Nat) (XQ : XP) : List A → List (Key × D) → Env' → (Env' → List (Key × D) → Prop) → Prop
  | [], acc, L, Q => Q L acc
  | a :: r, acc, L, Q => wt L a fun L1 => ut XQ L1 fun L2 b => if b = true then uk XQ L2 fun L3 d => uv XQ L3 fun L4 d' => ∃ k, dkey d = some k ∧ acc.length < sizeLine ∧ uDcI wt ut uk uv vs XQ r (putD acc k d') (wipeL L4 vs) Q else uDcI wt ut uk uv vs XQ r acc (wipeL L2 vs) Q
def uDc (w : UI) (wt : UTg) (ut : UT) (uk uv : UG) (vs : List Nat) : UE := fun XQ L QD => w XQ L fun L' as => vs.all (notP L') = true ∧ uDcI wt ut uk uv vs XQ as [] (wipeL L' vs) fun L'' ds => QD (restL L' L'' vs) (.f (.dic ds))
theorem RepK.any {K : PySem.W.Frag} {G : Hp} {k : Key} : ∀ {vs ds}, RepK K G vs ds → (vs.any fun kv => decide (kv.1 = k)) = ds.any fun kv => decide (kv.1 = k)
  | _, _, .nil => rfl
  | _, _, .cons _ t => by simp only [List.any_cons, t.any]
theorem RepK.snoc {K : PySem.W.Frag} {G : Hp} {k : Key} {v : V} {d : D} : ∀ {vs ds}, RepK K G vs ds → Rep K G v d → RepK K G (vs ++ [(k, v)]) (ds ++ [(k, d)])
  | _, _, .nil, r => .cons r .nil
  | _, _, .cons q t, r => .cons q (t.snoc r)
theorem RepK.repl {K : PySem.W.Frag} {G : Hp} {k : Key} {v : V} {d : D} (r : Rep K G v d) : ∀ {vs ds}, RepK K G vs ds → RepK K G (vs.map fun kv => if kv.1 = k then (kv.1, v) else kv) (ds.map fun kv => if kv.1 = k then (kv.1, d) else kv)
  | _, _, .nil => .nil
  | _, _, .cons (k := k') q t => by
    simp only [List.map_cons]
    by_cases h : k' = k
    · rw [if_pos h, if_pos h]; exact .cons r (t.repl r)
    · rw [if_neg h, if_neg h]; exact .cons q (t.repl r)
theorem RepK.put {K : PySem.W.Frag} {G : Hp} {k : Key} {v : V} {d : D} {vs ds} (t : RepK K G vs ds) (r : Rep K G v d) : RepK K G (putK vs k v) (putD ds k d) := by
  unfold putK putD
  rw [t.any (k := k)]
  by_cases h : (ds.any fun kv => decide (kv.1 = k)) = true
  · rw [if_pos h, if_pos h]; exact t.repl r
  · rw [if_neg h, if_neg h]; exact t.snoc r
theorem dkey_rep {K : PySem.W.Frag} {G : Hp} {v : V} {d : D} {k : Key} (r : Rep K G v d) (e : dkey d = some k) : v = kV k := by
  cases r <;> cases e <;> rfl
section
variable {X : Cx} {E : XK} {tg iter kx vx : Expr} {ifs : List Expr} {scope : Scope} {w : UI} {wt : UTg} {ut : UT} {uk uv : UG} {sl vs : List Nat} {Z : ZP}
theorem dc_it {J : It} {n : Nat} {Gp : Hp → Prop} {Y : Nat → Hp → V → Hp → Prop} (wk : Walk J n Gp Y) {g : TG} {tt : TT} {tk tv : TE} {vs : List Nat} {σ : St} {H1 : Hp} {D : Addr} {Qd : Hp → Prop} (Pv : Nat → Hp → Prop) (h0 : Pv 0 (upd H1 D (.dK []))) (hG : ∀ i H, i ≤ n → Pv i H → Gp H)
    (hs : ∀ i x H H', i < n → Pv i H → Y i H x H' → g x (wipe σ vs) H' fun σ2 H2 => wipe σ2 vs = wipe σ vs ∧ tt σ2 H2 fun b H3 =>
      if b = true then tk σ2 H3 fun y H4 => tv σ2 H4 fun z H5 => ∃ kvs k, y = kV k ∧ H5 D = some (.dK kvs) ∧ kvs.length < sizeLine ∧ Pv (i + 1) (upd H5 D (.dK (putK kvs k z))) else Pv (i + 1) H3) (hd : ∀ H, Pv n H → Qd H) :
    ∃ W : Nat → Nat → Hp → Prop, (∃ m, W 0 m (upd H1 D (.dK []))) ∧ ∀ i m H, W i m H →
      (J.stop i H ∧ Qd H) ∨ (J.go i H ∧ ∃ Nx : Hp → Prop, (∀ H', Nx H' → ∃ m', m' < m ∧ W (i + 1) m' H') ∧ ∀ x H', J.yld i H x H' → g x (wipe σ vs) H' fun σ2 H2 => wipe σ2 vs = wipe σ vs ∧ tt σ2 H2 fun b H3 =>
        if b = true then tk σ2 H3 fun y H4 => tv σ2 H4 fun z H5 => ∃ kvs k, y = kV k ∧ H5 D = some (.dK kvs) ∧ kvs.length < sizeLine ∧ Nx (upd H5 D (.dK (putK kvs k z))) else Nx H3) := by
  refine ⟨fun i m H => i ≤ n ∧ m + i = n ∧ Pv i H, ⟨n, Nat.zero_le _, rfl, h0⟩, ?_⟩
  rintro i m H ⟨hi, hm, p⟩
  have q := hG i H hi p
  rcases Nat.lt_or_ge i n with hlt | hge
  · exact .inr ⟨wk.goes i H hlt q, Pv (i + 1), fun H' p' => ⟨n - (i + 1), by omega, by omega, by omega, p'⟩, fun x H' y => hs i x H H' hlt p (wk.yields i H x H' hlt q y)⟩
  · have e : i = n := by omega
    subst e
    exact .inl ⟨wk.stops H q, hd H p⟩
theorem dcz_core (hi : DIz X E tg iter Z w) (hg : ∀ s H C cl fp, DTg (blkOf X scope s H C cl fp) tg sl wt) (hsl : ∀ i ∈ sl, i ∈ vs) (ht : ∀ s H C cl fp, DTs (blkOf X scope s H C cl fp) E ifs ut) (hk : ∀ s H C cl fp, DG (blkOf X scope s H C cl fp) E kx uk) (he : ∀ s H C cl fp, DG (blkOf X scope s H C cl fp) E vx uv) :
    ∃ wi g tt tk tv, PI X tg iter wi ∧ (∀ s H C cl fp, PG (blkOf X scope s H C cl fp) tg g) ∧ (∀ s H C cl fp, PTs (blkOf X scope s H C cl fp) ifs tt) ∧ (∀ s H C cl fp, PE (blkOf X scope s H C cl fp) kx tk) ∧ (∀ s H C cl fp, PE (blkOf X scope s H C cl fp) vx tv) ∧ CoreE X E Z (tDc wi g tt tk tv vs) (uDc w wt ut uk uv vs) := by
  obtain ⟨wi, pi, oki⟩ := hi.ex
  obtain ⟨g, pg, okg⟩ := fam_tg hg
  obtain ⟨tt, pt, okt⟩ := fam_t ht
  obtain ⟨tk, pk, okk⟩ := fam_g hk
  obtain ⟨te, pe', oke⟩ := fam_g he
  refine ⟨wi, g, tt, tk, te, pi, pg, pt, pk, pe', fun F lk G L σ H Q QD XQ M hz xl hu po => ?_⟩
  refine oki F lk G L σ H _ _ XQ M hz xl hu fun J H1 G1 L1 as s1 M1 W q1 => ?_
  obtain ⟨hvs, q1⟩ := q1
  intro D hD
  have hp := pa_out M1 hvs
  obtain ⟨Gp, Y, wk, hG, hY⟩ := W.ex
  have M0 : Mem X.K F lk G1 L1 σ (upd H1 D (.dK [])) := M1.grow (same_upd hD)
  have l0 : Lone F lk G1 L1 σ D := ⟨M1.gnone hD, M1.bnone hD, M1.lknone hD, M1.dom D hD, M1.noaddr hD⟩
  refine dc_it wk (fun i H => ∃ G2 L2 av ad, Same G1 G2 ∧ Mem X.K F lk G2 L2 (wipe σ vs) H ∧ H D = some (.dK av) ∧ RepK X.K G2 av ad ∧ Lone F lk G2 L2 (wipe σ vs) D ∧
      uDcI wt ut uk uv vs XQ (as.drop i) ad L2 fun L'' ds => QD (restL L1 L'' vs) (.f (.dic ds)))
    ⟨G1, wipeL L1 vs, [], [], .refl _, M0.wipe vs hp, upd_same, .nil, l0.wipe, q1⟩ (fun i H _ ⟨G2, L2, av, ad, s2, M2, _⟩ => hG F.Kp F.H0 F.G0 G2 L2 _ H s2 M2) ?_ ?_
  · rintro i x H2 H3 hi ⟨G2, L2, av, ad, s2, M2, hDv, ra, l2, q2⟩ hy
    have e : as.drop i = as[i] :: as.drop (i + 1) := List.drop_eq_getElem_cons hi
    rw [e] at q2
    have Mg := M2.guard hDv l2
    have xg := XLk.guard (o := .dK av) M2 l2 xl
    obtain ⟨G3, s3, M3, r3, n3, n3'⟩ := hY i x as[i] _ _ _ G2 L2 _ H2 H3 (by simp [hi]) s2 Mg hy
    refine okg (F.grd G2 D (.dK av)) lk G3 L2 _ H3 x as[i] _ _ M3 r3 n3 q2 fun σ4 G4 L4 H4 s4 M4 hw q4 => ?_
    have hw' := hw vs hsl
    rw [wipe_wipe] at hw'
    refine ⟨hw', ?_⟩
    refine okt (F.grd G2 D (.dK av)) lk G4 L4 σ4 H4 _ _ XQ M4 xg q4 fun b H5 G5 L5 s5 M5 q5 => ?_
    have sx : Same G2 G5 := (s3.trans s4).trans s5
    cases b with
    | true =>
      refine iteT ?_
      refine okk (F.grd G2 D (.dK av)) lk G5 L5 σ4 H5 _ _ XQ M5 xg q5 fun y H6 G6 L6 d s6 M6 r6 q6 => ?_
      refine oke (F.grd G2 D (.dK av)) lk G6 L6 σ4 H6 _ _ XQ M6 xg q6 fun z H7 G7 L7 d' s7 M7 r7 q7 => ?_
      obtain ⟨kk, ek, hz', q7⟩ := q7
      obtain ⟨M8, hD8, l8⟩ := Mem.unguard M2 l2 M7
      have sy := (sx.trans s6).trans s7
      refine ⟨av, kk, dkey_rep r6 ek, hD8, by rw [ra.len]; exact hz', G7, wipeL L7 vs, putK av kk z, putD ad kk d', s2.trans sy, ?_, upd_same, (ra.tr (Tr.same sy)).put r7, ?_, q7⟩
      · rw [← hw']; exact (M8.lone l8).wipe vs hp
      · rw [← hw']; exact l8.wipe
    | false =>
      refine iteF ?_
      obtain ⟨M7, hD7, l7⟩ := Mem.unguard M2 l2 M5
      refine ⟨G5, wipeL L5 vs, av, ad, s2.trans sx, ?_, hD7, ra.tr (Tr.same sx), ?_, q5⟩
      · rw [← hw']; exact M7.wipe vs hp
      · rw [← hw']; exact l7.wipe
  · rintro H2 ⟨G2, L2, av, ad, s2, M2, hDv, ra, l2, q2⟩
    rw [List.drop_eq_nil_of_le (Nat.le_refl _)] at q2
    have l3 : Lone F lk G2 (restL L1 L2 vs) σ D := l2.rest
    exact po (.ref D) H2 G2 (restL L1 L2 vs) (.f (.dic ad)) (s1.trans s2) (M1.rest M2 s2 hp) ⟨D, rfl, ⟨av, hDv, ra⟩, l3.g, l3.k, l3.l, l3.h, l3.s⟩ q2
theorem dx_dcz {e' : Expr} (pe : ∀ {wi g tt tk tv}, PI X tg iter wi → (∀ s H C cl fp, PG (blkOf X scope s H C cl fp) tg g) → (∀ s H C cl fp, PTs (blkOf X scope s H C cl fp) ifs tt) → (∀ s H C cl fp, PE (blkOf X scope s H C cl fp) kx tk) → (∀ s H C cl fp, PE (blkOf X scope s H C cl fp) vx tv) → PE X e' (tDc wi g tt tk tv vs)) (hi : DIz X E tg iter Z w) (hg : ∀ s H C cl fp, DTg (blkOf X scope s H C cl fp) tg sl wt) (hsl : ∀ i ∈ sl, i ∈ vs) (ht : ∀ s H C cl fp, DTs (blkOf X scope s H C cl fp) E ifs ut) (hk : ∀ s H C cl fp, DG (blkOf X scope s H C cl fp) E kx uk) (he : ∀ s H C cl fp, DG (blkOf X scope s H C cl fp) E vx uv) :
    DXz X E e' Z (uDc w wt ut uk uv vs) := by
  obtain ⟨wi, g, tt, tk, tv, p1, p2, p3, p4, p5, k⟩ := dcz_core hi hg hsl ht hk he
  exact ⟨_, pe p1 p2 p3 p4 p5, k⟩
theorem ds_dcz {st : Stmt} (i : Nat) (ps : ∀ {wi g tt tk tv}, PI X tg iter wi → (∀ s H C cl fp, PG (blkOf X scope s H C cl fp) tg g) → (∀ s H C cl fp, PTs (blkOf X scope s H C cl fp) ifs tt) → (∀ s H C cl fp, PE (blkOf X scope s H C cl fp) kx tk) → (∀ s H C cl fp, PE (blkOf X scope s H C cl fp) vx tv) → PS X st (tAsg (tDc wi g tt tk tv vs) (gName i))) (hi : DIz X E tg iter Z w) (hg : ∀ s H C cl fp, DTg (blkOf X scope s H C cl fp) tg sl wt) (hsl : ∀ i ∈ sl, i ∈ vs) (ht : ∀ s H C cl fp, DTs (blkOf X scope s H C cl fp) E ifs ut) (hk : ∀ s H C cl fp, DG (blkOf X scope s H C cl fp) E kx uk) (he : ∀ s H C cl fp, DG (blkOf X scope s H C cl fp) E vx uv) :
    DSz X E st Z (uSet i (uDc w wt ut uk uv vs)) := by
  obtain ⟨wi, g, tt, tk, tv, p1, p2, p3, p4, p5, k⟩ := dcz_core hi hg hsl ht hk he
  exact k.set (ps p1 p2 p3 p4 p5)
end
end QD

set_option Elab.async false
set_option linter.all false
set_option maxRecDepth 100000
set_option maxHeartbeats 4000000
namespace QD
open PySem PySem.Spec L2 PyProof.Rows
/-! ### what the built-in operations do on data -/
def addI : D → D → Option D
  | .int i, .int j => some (.int (i + j))
  | .str a, .str b => if a.length + b.length ≤ sizeLine then some (.str (a ++ b)) else none
  | _, _ => none
def subI : D → D → Option D
  | .int i, .int j => some (.int (i - j))
  | _, _ => none
def small (i : Int) : Bool := decide (-(2 ^ 64) < i) && decide (i < 2 ^ 64)
def mulI : D → D → Option D
  | .int i, .int j => if small i || small j then some (.int (i * j)) else none
  | _, _ => none
def modI : D → D → Option D
  | .int i, .int j => if 0 < j then some (.int (i % j)) else none
  | _, _ => none
def fdivI : D → D → Option D
  | .int i, .int j => if 0 < j ∧ j < 1073741824 then some (.int (i / j)) else none
  | _, _ => none
def powI : D → D → Option D
  | .int i, .int j => if 0 ≤ j ∧ j ≤ 1000000 ∧ i.natAbs < 2 ^ 64 then some (.int (i ^ j.toNat)) else none
  | _, _ => none
def negI : D → Option D
  | .int i => some (.int (-i))
  | _ => none
def ltI : D → D → Option D
  | .int i, .int j => some (.bl (decide (i < j)))
  | _, _ => none
def leI : D → D → Option D
  | .int i, .int j => some (.bl (decide (i ≤ j)))
  | _, _ => none
def gtI : D → D → Option D
  | .int i, .int j => some (.bl (decide (j < i)))
  | _, _ => none
def geI : D → D → Option D
  | .int i, .int j => some (.bl (decide (j ≤ i)))
  | _, _ => none
mutual
def toPy : D → Option PyData
  | .non => some .none
  | .bl b => some (.bool b)
  | .int i => some (.int i)
  | .str x => some (.str x)
  | .lst ds => (toPys ds).map .list
  | .tup ds => (toPys ds).map .tuple
  | _ => none
def toPys : List D → Option (List PyData)
  | [] => some []
  | d :: ds => match toPy d, toPys ds with
    | some p, some ps => some (p :: ps)
    | _, _ => none
end
def flat4 : D → Bool
  | .non => true | .bl _ => true | .int _ => true | .str _ => true
  | _ => false
def eqF : D → D → Bool
  | .non, .non => true
  | .bl a, .bl b => a == b
  | .bl a, .int b => (if a then 1 else 0) == b
  | .int a, .bl b => a == (if b then 1 else 0)
  | .int a, .int b => a == b
  | .str a, .str b => a == b
  | _, _ => false
def valD (kds : List (Key × D)) (k : Key) : Option D := (kds.find? fun kv => decide (kv.1 = k)).map (·.2)
def eqKD (ks ls : List (Key × D)) : Bool := ks.length == ls.length && ks.all fun p => match valD ls p.1 with
  | none => false
  | some u => eqF p.2 u
/-- ==, of data without dicts, of dicts of plain values -/
def eqB : D → D → Option Bool
  | .dic ks, .dic ls => if (ks.all fun p => flat4 p.2) && ls.all (fun p => flat4 p.2) then some (eqKD ks ls) else none
  | a, b => match toPy a, toPy b with
    | some p, some q => if SeqAt.shaped p && SeqAt.shaped q then some (PyData.eqv p q) else none
    | _, _ => none
def eqD (a b : D) : Option D := (eqB a b).map .bl
def neD (a b : D) : Option D := (eqB a b).map fun k => .bl (!k)
def inQ (x : D) (ds : List D) : Bool := ds.any fun y => eqF y x
/-- x in y: one sign in a text, a plain value among plain ones, a key in a dict -/
def inB : D → D → Option Bool
  | .str x, .str z => match x.cps.toList with
    | [c] => some (decide (c ∈ z.cps.toList))
    | _ => none
  | d, .lst ds => if flat4 d && ds.all flat4 then some (inQ d ds) else none
  | d, .tup ds => if flat4 d && ds.all flat4 then some (inQ d ds) else none
  | _, _ => none
def inD (a b : D) : Option D := (inB a b).map .bl
def ninD (a b : D) : Option D := (inB a b).map fun k => .bl (!k)
def kinD : D → D → Option D
  | d, .dic kds => (dkey d).map fun k => .bl (valD kds k).isSome
  | _, _ => none
def kninD : D → D → Option D
  | d, .dic kds => (dkey d).map fun k => .bl (!(valD kds k).isSome)
  | _, _ => none
section
variable {K : PySem.W.Frag} {E G H : Hp} {v : V} {d : D}
theorem int_of (r : Rep K H v d) {i : Int} (e : d = .int i) : v = .int i := by subst e; cases r; rfl
theorem str_of (r : Rep K H v d) {i : Str} (e : d = .str i) : v = .str i := by subst e; cases r; rfl
theorem so_int {fn : D → D → Option D} {C : Int → Int → Prop} {g : Int → Int → V} {gd : Int → Int → D} (hg : ∀ G i j, Rep K G (g i j) (gd i j)) (hf : ∀ a b d, fn a b = some d → ∃ i j, a = .int i ∧ b = .int j ∧ C i j ∧ d = gd i j) : SO2 K (rI C g) fn := by
  intro H x y d1 d2 d r1 r2 e
  obtain ⟨i, j, rfl, rfl, c, rfl⟩ := hf _ _ _ e
  exact ⟨g i j, fun G => hg G i j, fun Q q => ⟨i, j, int_of r1 rfl, int_of r2 rfl, c, q⟩⟩
theorem so_int0 {fn : D → D → Option D} {g : Int → Int → V} {gd : Int → Int → D} (hg : ∀ G i j, Rep K G (g i j) (gd i j)) (hf : ∀ a b d, fn a b = some d → ∃ i j, a = .int i ∧ b = .int j ∧ d = gd i j) : SO2 K (rI0 g) fn := by
  intro H x y d1 d2 d r1 r2 e
  obtain ⟨i, j, rfl, rfl, rfl⟩ := hf _ _ _ e
  exact ⟨g i j, fun G => hg G i j, fun Q q => ⟨i, j, int_of r1 rfl, int_of r2 rfl, q⟩⟩
end
section
variable {X : Cx}
def rAdd2 : R2 := fun x y H Q => rI0 (fun i j => .int (i + j)) x y H Q ∨ (fun x y H Q => ∃ i j, x = .str i ∧ y = .str j ∧ i.length + j.length ≤ sizeLine ∧ Q (.str (i ++ j)) H : R2) x y H Q
theorem o_add : OpR X (binaryOp .Add) rAdd2 := op_add.or op_add_str
theorem s_add : SO2 X.K rAdd2 addI := by
  intro H x y d1 d2 d r1 r2 e
  cases r1 <;> cases r2 <;> first | (cases (show (none : Option D) = some d from e)) | skip
  · rename_i i j
    cases e
    exact ⟨_, fun G => .int _, fun Q q => .inl ⟨i, j, rfl, rfl, q⟩⟩
  · rename_i i j
    have e : (if i.length + j.length ≤ sizeLine then some (D.str (i ++ j)) else none) = some d := e
    by_cases h : i.length + j.length ≤ sizeLine
    · rw [if_pos h] at e; cases e
      exact ⟨_, fun G => .str _, fun Q q => .inr ⟨i, j, rfl, rfl, h, q⟩⟩
    · rw [if_neg h] at e; cases e
theorem s_sub : SO2 X.K (rI0 fun i j => .int (i - j)) subI := so_int0 (gd := fun i j => .int (i - j)) (fun _ _ _ => .int _) fun a b d e => by
  cases a <;> cases b <;> first | cases e | skip
  exact ⟨_, _, rfl, rfl, rfl⟩
theorem s_mul : SO2 X.K (rI CMul fun i j => .int (i * j)) mulI := so_int (gd := fun i j => .int (i * j)) (fun _ _ _ => .int _) fun a b d e => by
  cases a <;> cases b <;> first | cases e | skip
  rename_i i j
  have e : (if (small i || small j) = true then some (D.int (i * j)) else none) = some d := e
  by_cases h : (small i || small j) = true
  · rw [if_pos h] at e; cases e
    refine ⟨i, j, rfl, rfl, ?_, rfl⟩
    unfold small at h
    simp only [Bool.or_eq_true, Bool.and_eq_true, decide_eq_true_eq] at h
    exact h
  · rw [if_neg h] at e; cases e
theorem s_mod : SO2 X.K (rI (fun _ j => 0 < j) fun i j => .int (i % j)) modI := so_int (gd := fun i j => .int (i % j)) (fun _ _ _ => .int _) fun a b d e => by
  cases a <;> cases b <;> first | cases e | skip
  rename_i i j
  have e : (if 0 < j then some (D.int (i % j)) else none) = some d := e
  by_cases h : 0 < j
  · rw [if_pos h] at e; cases e
    exact ⟨i, j, rfl, rfl, h, rfl⟩
  · rw [if_neg h] at e; cases e
theorem s_fdiv : SO2 X.K (rI CDiv fun i j => .int (i / j)) fdivI := so_int (gd := fun i j => .int (i / j)) (fun _ _ _ => .int _) fun a b d e => by
  cases a <;> cases b <;> first | cases e | skip
  rename_i i j
  have e : (if 0 < j ∧ j < 1073741824 then some (D.int (i / j)) else none) = some d := e
  by_cases h : 0 < j ∧ j < 1073741824
  · rw [if_pos h] at e; cases e
    exact ⟨i, j, rfl, rfl, h, rfl⟩
  · rw [if_neg h] at e; cases e
theorem s_pow : SO2 X.K (rI CPow fun i j => .int (i ^ j.toNat)) powI := so_int (gd := fun i j => .int (i ^ j.toNat)) (fun _ _ _ => .int _) fun a b d e => by
  cases a <;> cases b <;> first | cases e | skip
  rename_i i j
  have e : (if 0 ≤ j ∧ j ≤ 1000000 ∧ i.natAbs < 2 ^ 64 then some (D.int (i ^ j.toNat)) else none) = some d := e
  by_cases h : 0 ≤ j ∧ j ≤ 1000000 ∧ i.natAbs < 2 ^ 64
  · rw [if_pos h] at e; cases e
    exact ⟨i, j, rfl, rfl, h, rfl⟩
  · rw [if_neg h] at e; cases e
theorem s_neg : SO1 X.K (rU fun i => .int (-i)) negI := by
  intro H x d1 d r e
  cases r <;> cases e
  exact ⟨_, fun _ => .int _, fun Q q => ⟨_, rfl, q⟩⟩
theorem s_lt : SO2 X.K (rI0 fun i j => .bl (decide (i < j))) ltI := so_int0 (gd := fun i j => .bl (decide (i < j))) (fun _ _ _ => .bl _) fun a b d e => by
  cases a <;> cases b <;> first | cases e | skip
  exact ⟨_, _, rfl, rfl, rfl⟩
theorem s_le : SO2 X.K (rI0 fun i j => .bl (decide (i ≤ j))) leI := so_int0 (gd := fun i j => .bl (decide (i ≤ j))) (fun _ _ _ => .bl _) fun a b d e => by
  cases a <;> cases b <;> first | cases e | skip
  exact ⟨_, _, rfl, rfl, rfl⟩
theorem s_gt : SO2 X.K (rI0 fun i j => .bl (decide (j < i))) gtI := so_int0 (gd := fun i j => .bl (decide (j < i))) (fun _ _ _ => .bl _) fun a b d e => by
  cases a <;> cases b <;> first | cases e | skip
  exact ⟨_, _, rfl, rfl, rfl⟩
theorem s_ge : SO2 X.K (rI0 fun i j => .bl (decide (j ≤ i))) geI := so_int0 (gd := fun i j => .bl (decide (j ≤ i))) (fun _ _ _ => .bl _) fun a b d e => by
  cases a <;> cases b <;> first | cases e | skip
  exact ⟨_, _, rfl, rfl, rfl⟩
mutual
theorem dp_of {K : PySem.W.Frag} {H : Hp} : ∀ {v d p}, Rep K H v d → toPy d = some p → Dp K H v p
  | _, _, _, .non, e => by cases e; exact .non
  | _, _, _, .bl b, e => by cases e; exact .bl b
  | _, _, _, .int b, e => by cases e; exact .int b
  | _, _, _, .str b, e => by cases e; exact .str b
  | _, _, _, .ty b, e => by cases e
  | _, _, _, .lst (ds := ds) h r, e => by
    have e : (toPys ds).map PyData.list = some _ := e
    cases q : toPys ds with
    | none => rw [q] at e; cases e
    | some ps => rw [q] at e; cases e; exact .lst h (dps_of r q)
  | _, _, _, .tup (ds := ds) h r, e => by
    have e : (toPys ds).map PyData.tuple = some _ := e
    cases q : toPys ds with
    | none => rw [q] at e; cases e
    | some ps => rw [q] at e; cases e; exact .tup h (dps_of r q)
  | _, _, _, .dic h r, e => by cases e
  | _, _, _, .ins h r, e => by cases e
theorem dps_of {K : PySem.W.Frag} {H : Hp} : ∀ {v d p}, Reps K H v d → toPys d = some p → DpAll K H v p
  | _, _, _, .nil, e => by cases e; exact .nil
  | _, _, _, .cons (d := d) (ds := ds) h r, e => by
    have e : (match toPy d, toPys ds with | some p, some ps => some (p :: ps) | _, _ => none) = some _ := e
    split at e
    · rename_i p ps e1 e2
      cases e
      exact .cons (dp_of h e1) (dps_of r e2)
    · cases e
end
/-! == of dicts of plain values -/
def eqKV (ks ls : List (Key × V)) : Bool := ks.length == ls.length && ks.all fun p => match valV ls p.1 with
  | none => false
  | some u => eqV p.2 u
def rEqK (neg : Bool) : R2 := fun x y H Q => ∃ a b ks ls, x = .ref a ∧ y = .ref b ∧ Rd H a (.dK ks) ∧ Rd H b (.dK ls) ∧ (ks.all fun p => flatV p.2) = true ∧ (ls.all fun p => flatV p.2) = true ∧ Q (.bl (neg != eqKV ks ls)) H
theorem valV_flat {ls : List (Key × V)} {k : Key} {u : V} (h : (ls.all fun p => flatV p.2) = true) (e : valV ls k = some u) : flatV u = true := by
  unfold valV at e
  cases q : ls.find? fun kv => decide (kv.1 = k) with
  | none => rw [q] at e; cases e
  | some p => rw [q] at e; cases e; exact List.all_eq_true.mp h p (List.mem_of_find?_eq_some q)
theorem hits_k {A : Around} {s : Shared} {ls : List (Key × V)} {vb : List (Key × Value)} (rb : KV ls vb) (hl : (ls.all fun p => flatV p.2) = true) : ∀ {ks : List (Key × V)} {va : List (Key × Value)}, KV ks va → (ks.all fun p => flatV p.2) = true →
    PySem.W.KeqHits A s vb va (ks.all fun p => match valV ls p.1 with | none => false | some u => eqV p.2 u)
  | _, _, .nil, _ => .nil
  | (k, x) :: ks, (k', v) :: va, .cons h t, hf => by
    rw [List.all_cons, Bool.and_eq_true] at hf
    have h1 : k = k' := h.1
    subst h1
    rw [List.all_cons]
    have rr := rb.val k
    cases q : valV ls k with
    | none =>
      rw [q] at rr
      simp only [q, Bool.false_and]
      exact .miss rr.none_of
    | some u =>
      rw [q] at rr
      simp only [q]
      obtain ⟨y, hy, ry⟩ := rr.some_of
      exact .hit hy (eqAt_V h.2 ry hf.1 (valV_flat hl q)) (hits_k rb hl t hf.2)
theorem o_eqK (hu : X.A.units < cLine) : OpR X (compareOp .Eq) (rEqK false) := by
  intro pins s σ H x y v u Q I rx ry h
  obtain ⟨a, b, ks, ls, rfl, rfl, ha, hb, f1, f2, q⟩ := h
  cases (show v = Value.ref a from rx)
  cases (show u = Value.ref b from ry)
  obtain ⟨_, ya, va, ra, da⟩ := dk_rd I.hok ha
  obtain ⟨_, yb, vb, rb, db⟩ := dk_rd I.hok hb
  refine PySem.W.keq_eq (knd := mixKind X.prog X.w) ya yb da db hu (fun _ => hits_k rb f2 ra f1) (fin_bl I q ?_)
  unfold eqKV
  rw [← ra.length, ← rb.length]
  simp
theorem o_neK (hu : X.A.units < cLine) : OpR X (compareOp .NotEq) (rEqK true) := by
  intro pins s σ H x y v u Q I rx ry h
  obtain ⟨a, b, ks, ls, rfl, rfl, ha, hb, f1, f2, q⟩ := h
  cases (show v = Value.ref a from rx)
  cases (show u = Value.ref b from ry)
  obtain ⟨_, ya, va, ra, da⟩ := dk_rd I.hok ha
  obtain ⟨_, yb, vb, rb, db⟩ := dk_rd I.hok hb
  refine PySem.W.keq_ne (knd := mixKind X.prog X.w) ya yb da db hu (fun _ => hits_k rb f2 ra f1) (fin_bl I q ?_)
  unfold eqKV
  rw [← ra.length, ← rb.length]
  simp
theorem flat_v {K : PySem.W.Frag} {H : Hp} {v : V} {d : D} (r : Rep K H v d) (h : flat4 d = true) : flatV v = true := by
  cases r <;> first | rfl | cases h
theorem eqF_v {K : PySem.W.Frag} {H : Hp} {v w : V} {d e : D} (r : Rep K H v d) (q : Rep K H w e) (h : flat4 d = true) (h' : flat4 e = true) : eqV v w = eqF d e := by
  cases r <;> first | (cases h; done) | (cases q <;> first | rfl | (cases h'; done))
theorem RepK.flats {K : PySem.W.Frag} {H : Hp} : ∀ {vs ds}, RepK K H vs ds → (ds.all fun p => flat4 p.2) = true → (vs.all fun p => flatV p.2) = true
  | _, _, .nil, _ => rfl
  | _, _, .cons r t, h => by
    rw [List.all_cons, Bool.and_eq_true] at h ⊢
    exact ⟨flat_v r h.1, t.flats h.2⟩
theorem Reps.flats {K : PySem.W.Frag} {H : Hp} : ∀ {vs ds}, Reps K H vs ds → ds.all flat4 = true → vs.all flatV = true
  | _, _, .nil, _ => rfl
  | _, _, .cons r t, h => by
    rw [List.all_cons, Bool.and_eq_true] at h ⊢
    exact ⟨flat_v r h.1, t.flats h.2⟩
theorem RepK.val {K : PySem.W.Frag} {H : Hp} {k : Key} : ∀ {vs ds}, RepK K H vs ds → (∀ d, valD ds k = some d → ∃ v, valV vs k = some v ∧ Rep K H v d) ∧ (valD ds k = none → valV vs k = none)
  | _, _, .nil => ⟨fun d h => (by cases h), fun _ => rfl⟩
  | _, _, .cons (k := k') (v := v) (d := d) (vs := vs) (ds := ds) r t => by
    obtain ⟨h1, h2⟩ := t.val (k := k)
    by_cases e : k' = k
    · have e1 : valD ((k', d) :: ds) k = some d := by unfold valD; simp [List.find?_cons, e]
      have e2 : valV ((k', v) :: vs) k = some v := valV_pos (p := (k', v)) e
      rw [e1, e2]
      exact ⟨fun x h => (by cases h; exact ⟨v, rfl, r⟩), fun h => (by cases h)⟩
    · have e1 : valD ((k', d) :: ds) k = valD ds k := by unfold valD; simp [List.find?_cons, e]
      have e2 : valV ((k', v) :: vs) k = valV vs k := valV_neg (p := (k', v)) e
      rw [e1, e2]
      exact ⟨h1, h2⟩
theorem mem_val {ls : List (Key × D)} {k : Key} {u : D} (h : (ls.all fun p => flat4 p.2) = true) (e : valD ls k = some u) : flat4 u = true := by
  unfold valD at e
  cases q : ls.find? fun kv => decide (kv.1 = k) with
  | none => rw [q] at e; cases e
  | some p => rw [q] at e; cases e; exact List.all_eq_true.mp h p (List.mem_of_find?_eq_some q)
theorem eqK_v {K : PySem.W.Frag} {H : Hp} {ks ls : List (Key × V)} {kd ld : List (Key × D)} (r2 : RepK K H ls ld) (h2 : (ld.all fun p => flat4 p.2) = true) : ∀ {ks kd}, RepK K H ks kd → (kd.all fun p => flat4 p.2) = true →
    (ks.all fun p => match valV ls p.1 with | none => false | some u => eqV p.2 u) = kd.all fun p => match valD ld p.1 with | none => false | some u => eqF p.2 u
  | _, _, .nil, _ => rfl
  | _, _, .cons (k := k) r t, h => by
    rw [List.all_cons, Bool.and_eq_true] at h
    rw [List.all_cons, List.all_cons, eqK_v (ks := ks) (kd := kd) r2 h2 t h.2]
    congr 1
    cases q : valD ld k with
    | none => simp only [r2.val.2 q]
    | some u =>
      obtain ⟨w, e, rw'⟩ := r2.val.1 u q
      simp only [e]
      exact eqF_v r rw' h.1 (mem_val h2 q)
theorem o_eq (hu : X.A.units + 64 < cLine) : OpR X (compareOp .Eq) (fun x y H Q => rEqD X.K x y H Q ∨ rEqK false x y H Q) := (op_eqD hu).or (o_eqK (by omega))
theorem o_ne (hu : X.A.units + 64 < cLine) : OpR X (compareOp .NotEq) (fun x y H Q => rNeD X.K x y H Q ∨ rEqK true x y H Q) := (op_neD hu).or (o_neK (by omega))
theorem eqB_ok {K : PySem.W.Frag} {H : Hp} {x y : V} {d1 d2 : D} {k : Bool} (r1 : Rep K H x d1) (r2 : Rep K H y d2) (e : eqB d1 d2 = some k) :
    (∃ p q, Dp K H x p ∧ Dp K H y q ∧ SeqAt.shaped p = true ∧ SeqAt.shaped q = true ∧ PyData.eqv p q = k) ∨ (∃ a b ks ls, x = .ref a ∧ y = .ref b ∧ Rd H a (.dK ks) ∧ Rd H b (.dK ls) ∧ (ks.all fun p => flatV p.2) = true ∧ (ls.all fun p => flatV p.2) = true ∧ eqKV ks ls = k) := by
  have data : (match toPy d1, toPy d2 with | some p, some q => if (SeqAt.shaped p && SeqAt.shaped q) = true then some (PyData.eqv p q) else none | _, _ => none) = some k → ∃ p q, Dp K H x p ∧ Dp K H y q ∧ SeqAt.shaped p = true ∧ SeqAt.shaped q = true ∧ PyData.eqv p q = k := fun e => by
    split at e
    · rename_i p q e1 e2
      by_cases h : (SeqAt.shaped p && SeqAt.shaped q) = true
      · rw [if_pos h] at e
        rw [Bool.and_eq_true] at h
        exact ⟨p, q, dp_of r1 e1, dp_of r2 e2, h.1, h.2, Option.some.inj e⟩
      · rw [if_neg h] at e; cases e
    · cases e
  unfold eqB at e
  split at e
  · rename_i ks ls
    by_cases h : ((ks.all fun p => flat4 p.2) && ls.all (fun p => flat4 p.2)) = true
    · rw [if_pos h] at e
      rw [Bool.and_eq_true] at h
      cases r1 with
      | dic h1 k1 =>
        cases r2 with
        | dic h2 k2 =>
          refine .inr ⟨_, _, _, _, rfl, rfl, h1, h2, k1.flats h.1, k2.flats h.2, ?_⟩
          unfold eqKV
          unfold eqKD at e
          rw [k1.len, k2.len, eqK_v (ks := []) (kd := []) k2 h.2 k1 h.1]
          exact Option.some.inj e
    · rw [if_neg h] at e; cases e
  · exact .inl (data e)
theorem s_eq : SO2 X.K (fun x y H Q => rEqD X.K x y H Q ∨ rEqK false x y H Q) eqD := by
  intro H x y d1 d2 d r1 r2 e
  unfold eqD at e
  cases q : eqB d1 d2 with
  | none => rw [q] at e; cases e
  | some k =>
    rw [q] at e; cases e
    refine ⟨.bl k, fun _ => .bl k, fun Q hq => ?_⟩
    rcases eqB_ok r1 r2 q with ⟨p, q', h1, h2, h3, h4, rfl⟩ | ⟨a, b, ks, ls, h1, h2, h3, h4, h5, h6, rfl⟩
    · exact .inl ⟨p, q', h1, h2, h3, h4, hq⟩
    · exact .inr ⟨a, b, ks, ls, h1, h2, h3, h4, h5, h6, by simpa using hq⟩
theorem s_ne : SO2 X.K (fun x y H Q => rNeD X.K x y H Q ∨ rEqK true x y H Q) neD := by
  intro H x y d1 d2 d r1 r2 e
  unfold neD at e
  cases q : eqB d1 d2 with
  | none => rw [q] at e; cases e
  | some k =>
    rw [q] at e; cases e
    refine ⟨.bl (!k), fun _ => .bl _, fun Q hq => ?_⟩
    rcases eqB_ok r1 r2 q with ⟨p, q', h1, h2, h3, h4, rfl⟩ | ⟨a, b, ks, ls, h1, h2, h3, h4, h5, h6, rfl⟩
    · exact .inl ⟨p, q', h1, h2, h3, h4, hq⟩
    · exact .inr ⟨a, b, ks, ls, h1, h2, h3, h4, h5, h6, by simpa using hq⟩
/-! in -/
def rIn2 (K : PySem.W.Frag) (neg : Bool) : R2 := fun x y H Q => (∃ (c : Nat) (z : Str), x = .str ⟨#[c]⟩ ∧ y = .str z ∧ Q (.bl (neg != decide (c ∈ z.cps.toList))) H) ∨ rIn K neg x y H Q
theorem o_in : OpR X (compareOp .In) (rIn2 X.K false) := by
  intro pins s σ H x y v u Q I rx ry h
  rcases h with ⟨c, z, h1, h2, q⟩ | h
  · exact op_in_sign pins s σ H x y v u Q I rx ry ⟨c, z, h1, h2, by simpa using q⟩
  · exact op_in_seq pins s σ H x y v u Q I rx ry h
theorem o_nin : OpR X (compareOp .NotIn) (rIn2 X.K true) := by
  intro pins s σ H x y v u Q I rx ry h
  rcases h with ⟨c, z, h1, h2, q⟩ | h
  · exact op_notIn_sign pins s σ H x y v u Q I rx ry ⟨c, z, h1, h2, by simpa using q⟩
  · exact op_notIn_seq pins s σ H x y v u Q I rx ry h
theorem inQ_v {K : PySem.W.Frag} {H : Hp} {v : V} {d : D} (r : Rep K H v d) (h : flat4 d = true) : ∀ {vs ds}, Reps K H vs ds → ds.all flat4 = true → inV v vs = inQ d ds
  | _, _, .nil, _ => rfl
  | _, _, .cons q t, h' => by
    rw [List.all_cons, Bool.and_eq_true] at h'
    have ih := inQ_v r h t h'.2
    unfold inV inQ at ih ⊢
    rw [List.any_cons, List.any_cons, ih, eqF_v q r h'.1 h]
theorem in_ok {K : PySem.W.Frag} {H : Hp} {x y : V} {d1 d2 : D} {k : Bool} (neg : Bool) (r1 : Rep K H x d1) (r2 : Rep K H y d2) (e : inB d1 d2 = some k) (Q : VK) (q : Q (.bl (neg != k)) H) : rIn2 K neg x y H Q := by
  have fin : ∀ {ds : List D} {p : Addr} {vs : List V}, (SqL K H p vs ∨ SqT K H p vs) → Reps K H vs ds → y = .ref p → (if (flat4 d1 && ds.all flat4) = true then some (inQ d1 ds) else none) = some k → rIn2 K neg x y H Q := fun {ds p vs} hs rs hy e => by
    by_cases h : (flat4 d1 && ds.all flat4) = true
    · rw [if_pos h] at e
      cases e
      rw [Bool.and_eq_true] at h
      refine .inr ⟨p, vs, hy, hs, flat_v r1 h.1, rs.flats h.2, ?_⟩
      rw [inQ_v r1 h.1 rs h.2]
      cases neg <;> simpa using q
    · rw [if_neg h] at e; cases e
  unfold inB at e
  split at e
  · rename_i x' z
    split at e
    · rename_i c hc
      cases e
      refine .inl ⟨c, z, ?_, str_of r2 rfl, q⟩
      rw [str_of r1 rfl]
      congr 1
      obtain ⟨cps⟩ := x'
      congr 1
      exact Array.toList_inj.mp hc
    · cases e
  · cases r2 with
    | lst h rs => exact fin (.inl h) rs rfl e
  · cases r2 with
    | tup h rs => exact fin (.inr h) rs rfl e
  · cases e
theorem s_in : SO2 X.K (rIn2 X.K false) inD := by
  intro H x y d1 d2 d r1 r2 e
  unfold inD at e
  cases q : inB d1 d2 with
  | none => rw [q] at e; cases e
  | some k => rw [q] at e; cases e; exact ⟨.bl k, fun _ => .bl _, fun Q hq => in_ok false r1 r2 q Q (by simpa using hq)⟩
theorem s_nin : SO2 X.K (rIn2 X.K true) ninD := by
  intro H x y d1 d2 d r1 r2 e
  unfold ninD at e
  cases q : inB d1 d2 with
  | none => rw [q] at e; cases e
  | some k => rw [q] at e; cases e; exact ⟨.bl (!k), fun _ => .bl _, fun Q hq => in_ok true r1 r2 q Q (by simpa using hq)⟩
end
end QD

set_option Elab.async false
set_option linter.all false
set_option maxRecDepth 100000
set_option maxHeartbeats 4000000
namespace QD
open PySem PySem.Spec L2 PyProof.Rows
open C8 (InsC)
/-! ### calls of built-ins -/
def lenD : List D → Option D
  | [.str z] => if z.length ≤ sizeLine then some (.int z.length) else none
  | [.lst ds] => some (.int ds.length)
  | [.tup ds] => some (.int ds.length)
  | [.dic kds] => some (.int kds.length)
  | _ => none
def rLen (K : PySem.W.Frag) : List V → Hp → VK → Prop := fun xs H Q => (∃ x n, xs = [x] ∧ LenV K x H n ∧ Q (.int n) H) ∨ ∃ a kvs, xs = [.ref a] ∧ Rd H a (.dK kvs) ∧ Q (.int kvs.length) H
def tyOf : D → Option Value
  | .non => some (.type "NoneType") | .bl _ => some (.type "bool") | .int _ => some (.type "int") | .str _ => some (.type "str")
  | .lst _ => some (.type "list") | .tup _ => some (.type "tuple") | .dic _ => some (.type "dict") | .ins C _ => some (.ref C)
  | .ty _ => none
/-- what isinstance tells of the written part's classes -/
structure ClsF (K : PySem.W.Frag) (C : Addr) : Prop where
  ic : InsC K C
  bi : ∀ n ∈ (["NoneType", "bool", "int", "str", "list", "tuple", "dict"] : List String), PySem.W.kitOne K (.ref C) (.type n) = some false
  ty : ∀ n ∈ (["NoneType", "bool", "int", "str", "list", "tuple", "dict"] : List String), PySem.W.kitOne K (.type n) (.ref C) = some false
/-- isinstance(x, T) of a built-in T; cs: own classes that are none of them -/
def isT (cs : List Addr) (T : String) : List D → Option D
  | [.ins C _] => if C ∈ cs ∧ T ∈ (["NoneType", "bool", "int", "str", "list", "tuple", "dict"] : List String) then some (.bl false) else none
  | [.non] => (kitB "NoneType" T).map .bl
  | [.bl _] => (kitB "bool" T).map .bl
  | [.int _] => (kitB "int" T).map .bl
  | [.str _] => (kitB "str" T).map .bl
  | [.lst _] => (kitB "list" T).map .bl
  | [.tup _] => (kitB "tuple" T).map .bl
  | [.dic _] => (kitB "dict" T).map .bl
  | _ => none
/-- isinstance(x, C) of an own class -/
def isC (C : Addr) : List D → Option D
  | [.ins C' _] => if C' = C then some (.bl true) else none
  | [.ty _] => none
  | [_] => some (.bl false)
  | _ => none
def asBl : D → Option Bool
  | .bl b => some b
  | _ => none
def asInt : D → Option Int
  | .int b => some b
  | _ => none
def asStr : D → Option Str
  | .str b => some b
  | _ => none
def allD : List D → Option D
  | [.lst ds] => (ds.mapM asBl).map fun bs => .bl (bs.all id)
  | _ => none
def anyD : List D → Option D
  | [.lst ds] => (ds.mapM asBl).map fun bs => .bl (bs.any id)
  | _ => none
def intsD (ds : List D) : Option (List Int) := ds.mapM asInt
def strsD (ds : List D) : Option (List Str) := ds.mapM asStr
def sumD : List D → Option D
  | [.lst ds] => (intsD ds).map fun ns => .int ns.sum
  | _ => none
def maxD : List D → Option D
  | [.int i, .int j] => some (.int (if j > i then j else i))
  | _ => none
def minD : List D → Option D
  | [.int i, .int j] => some (.int (if j < i then j else i))
  | _ => none
def absD : List D → Option D
  | [.int i] => some (.int (if i < 0 then -i else i))
  | _ => none
def intD : List D → Option D
  | [.int i] => some (.int i)
  | [.bl k] => some (.int (if k then 1 else 0))
  | _ => none
def strD : List D → Option D
  | [.int i] => if i.natAbs.log2 < 1920 then some (.str (toString i)) else none
  | _ => none
/-- sorted: of texts, of a dict with text keys -/
def keysS (kds : List (Key × D)) : Option (List Str) := kds.mapM fun p => match p.1 with | .inr x => some x | _ => none
def sortedR : List D → (D → Prop) → Prop
  | [.lst ds], P => ∃ xs, strsD ds = some xs ∧ xs.length < 64 ∧ ∀ ys : List Str, ys.Perm xs → sortedS ys = true → P (.lst (ys.map .str))
  | [.dic kds], P => ∃ xs, keysS kds = some xs ∧ xs.length < 64 ∧ ∀ ys : List Str, ys.Perm xs → sortedS ys = true → P (.lst (ys.map .str))
  | _, _ => False
def listD : List D → Option D
  | [.lst ds] => some (.lst ds)
  | [.tup ds] => some (.lst ds)
  | [.dic kds] => some (.lst (kds.map fun p => keyD p.1))
  | _ => none
def pairD : D → Option (Key × D)
  | .tup [k, v] => (dkey k).map fun k => (k, v)
  | _ => none
def mergeD (kds more : List (Key × D)) : List (Key × D) := more.foldl (fun acc kv => putD acc kv.1 kv.2) kds
def dictD : List D → Option D
  | [.dic kds] => some (.dic kds)
  | [.lst ds] => (ds.mapM pairD).map fun ps => .dic (mergeD [] ps)
  | _ => none
def itemsD : List D → Option D
  | [.dic kds] => if kds.length ≤ sizeLine then some (.lst (kds.map fun p => .tup [keyD p.1, p.2])) else none
  | _ => none
section
variable {X : Cx}
theorem Reps.one {K : PySem.W.Frag} {H : Hp} {xs : List V} {d : D} (r : Reps K H xs [d]) : ∃ v, xs = [v] ∧ Rep K H v d := by
  cases r with
  | cons r t => cases t; exact ⟨_, rfl, r⟩
theorem Reps.two {K : PySem.W.Frag} {H : Hp} {xs : List V} {d e : D} (r : Reps K H xs [d, e]) : ∃ v w, xs = [v, w] ∧ Rep K H v d ∧ Rep K H w e := by
  cases r with
  | cons r t => obtain ⟨w, rfl, q⟩ := t.one; exact ⟨_, w, rfl, r, q⟩
theorem Vws.one {K : PySem.W.Frag} {E H : Hp} {xs : List V} {d : D} (r : Vws K E H xs [d]) : ∃ v, xs = [v] ∧ Vw K E H v d := by
  cases r with
  | cons r t => cases t; exact ⟨_, rfl, r⟩
theorem c_len : CallR X (.builtin "len") (rLen X.K) := by
  intro pins s σ H xs us Q I r h
  rcases h with h | ⟨a, kvs, rfl, rd, q⟩
  · exact call_len pins s σ H xs us Q I r h
  · obtain ⟨u, rfl, ru⟩ := vals1 r
    cases (show u = Value.ref a from ru)
    exact d_len I rd fun t s' I' => ⟨.int kvs.length, H, I', ⟨t, rfl⟩, q⟩
theorem s_len : SOn X.K (rLen X.K) lenD := by
  intro H xs ds d rs e
  unfold lenD at e
  split at e
  · rename_i z
    obtain ⟨v, rfl, r⟩ := rs.one
    by_cases h : z.length ≤ sizeLine
    · rw [if_pos h] at e; cases e
      rw [str_of r rfl]
      exact ⟨_, fun _ => .int _, fun Q q => .inl ⟨_, _, rfl, ⟨h, rfl⟩, q⟩⟩
    · rw [if_neg h] at e; cases e
  · cases e
    obtain ⟨v, rfl, r⟩ := rs.one
    cases r with
    | lst h r => exact ⟨_, fun _ => .int _, fun Q q => .inl ⟨_, _, rfl, .inl ⟨_, h, rfl⟩, by rw [r.len]; exact q⟩⟩
  · cases e
    obtain ⟨v, rfl, r⟩ := rs.one
    cases r with
    | tup h r => exact ⟨_, fun _ => .int _, fun Q q => .inl ⟨_, _, rfl, .inr ⟨_, h, rfl⟩, by rw [r.len]; exact q⟩⟩
  · cases e
    obtain ⟨v, rfl, r⟩ := rs.one
    cases r with
    | dic h r => exact ⟨_, fun _ => .int _, fun Q q => .inr ⟨_, _, rfl, h, by rw [r.len]; exact q⟩⟩
  · cases e
theorem tyx_seqL {K : PySem.W.Frag} {H : Hp} {a : Addr} {xs : List V} (h : SqL K H a xs) : TyX K H (.ref a) (.type "list") := by
  rcases h with (h | ⟨o, h⟩) | ⟨o, its, n, h1, h2, _⟩
  · exact .base (.lst h)
  · exact .base (.frz h)
  · exact .kList h1 h2
theorem tyx_seqT {K : PySem.W.Frag} {H : Hp} {a : Addr} {xs : List V} (h : SqT K H a xs) : TyX K H (.ref a) (.type "tuple") := by
  rcases h with (h | ⟨o, h⟩) | ⟨o, its, n, h1, h2, _⟩
  · exact .base (.tup h)
  · exact .fTuple h
  · exact .kTuple h1 h2
theorem tyx_dic {K : PySem.W.Frag} {H : Hp} {a : Addr} {kvs : List (Key × V)} (h : Rd H a (.dK kvs)) : TyX K H (.ref a) (.type "dict") := by
  rcases h with h | ⟨o, h⟩
  · exact .base (.dK h)
  · exact .fDict h
theorem tyx_ins {K : PySem.W.Frag} {H : Hp} {a C dx : Addr} {fs : List (Str × V)} (c : InsC K C) (h : H a = some (.ins C dx fs)) : TyX K H (.ref a) (.ref C) := .base (.ins h c.cl c.ha c.hn c.htk c.hm)
/-- isinstance(x, T): the second place is the class's name -/
def rIsT (K : PySem.W.Frag) (c : V) : List V → Hp → VK → Prop := fun xs H Q => ∃ x, xs = [x] ∧ rIsi K [x, c] H Q
theorem s_isT {cs : List Addr} (hc : ∀ C ∈ cs, ClsF X.K C) (T : String) : SOn X.K (rIsT X.K (.ty T)) (isT cs T) := by
  intro H xs ds d rs e
  have fin : ∀ {x : V} {d1 : D} {t : String}, Rep X.K H x d1 → TyX X.K H x (.type t) → xs = [x] → (kitB t T).map D.bl = some d → ∃ w, (∀ G, Rep X.K G w d) ∧ ∀ Q : VK, Q w H → rIsT X.K (.ty T) xs H Q := fun {x d1 t} r ty hx e => by
    cases q : kitB t T with
    | none => rw [q] at e; cases e
    | some b => rw [q] at e; cases e; exact ⟨.bl b, fun _ => .bl b, fun Q hq => ⟨x, hx, x, .ty T, _, _, b, rfl, .ty T, ty, kit_ty q, hq⟩⟩
  unfold isT at e
  split at e
  · rename_i C fs
    obtain ⟨v, rfl, r⟩ := rs.one
    cases r with
    | ins h r =>
      by_cases z : C ∈ cs ∧ T ∈ (["NoneType", "bool", "int", "str", "list", "tuple", "dict"] : List String)
      · rw [if_pos z] at e; cases e
        have f := hc C z.1
        exact ⟨.bl false, fun _ => .bl _, fun Q hq => ⟨_, rfl, _, .ty T, _, _, false, rfl, .ty T, tyx_ins f.ic h, f.bi T z.2, hq⟩⟩
      · rw [if_neg z] at e; cases e
  · obtain ⟨v, rfl, r⟩ := rs.one; cases r; exact fin .non (.base .non) rfl e
  · obtain ⟨v, rfl, r⟩ := rs.one; cases r; exact fin (.bl _) (.base (.bl _)) rfl e
  · obtain ⟨v, rfl, r⟩ := rs.one; cases r; exact fin (.int _) (.base (.int _)) rfl e
  · obtain ⟨v, rfl, r⟩ := rs.one; cases r; exact fin (.str _) (.base (.str _)) rfl e
  · obtain ⟨v, rfl, r⟩ := rs.one
    cases id r with
    | lst h _ => exact fin r (tyx_seqL h) rfl e
  · obtain ⟨v, rfl, r⟩ := rs.one
    cases id r with
    | tup h _ => exact fin r (tyx_seqT h) rfl e
  · obtain ⟨v, rfl, r⟩ := rs.one
    cases id r with
    | dic h _ => exact fin r (tyx_dic h) rfl e
  · cases e
theorem s_isC {C : Addr} (hc : ClsF X.K C) : SOn X.K (rIsT X.K (.ref C)) (isC C) := by
  intro H xs ds d rs e
  have fin : ∀ {x : V} {t : String}, t ∈ (["NoneType", "bool", "int", "str", "list", "tuple", "dict"] : List String) → TyX X.K H x (.type t) → xs = [x] → ∃ w, (∀ G, Rep X.K G w (.bl false)) ∧ ∀ Q : VK, Q w H → rIsT X.K (.ref C) xs H Q :=
    fun {x t} ht ty hx => ⟨.bl false, fun _ => .bl _, fun Q hq => ⟨x, hx, x, .ref C, _, _, false, rfl, .own C, ty, hc.ty t ht, hq⟩⟩
  unfold isC at e
  split at e
  · rename_i C' fs
    obtain ⟨v, rfl, r⟩ := rs.one
    cases r with
    | ins h r =>
      by_cases z : C' = C
      · subst z
        rw [if_pos rfl] at e; cases e
        exact ⟨.bl true, fun _ => .bl _, fun Q hq => ⟨_, rfl, _, .ref C', _, _, true, rfl, .own C', tyx_ins hc.ic h, hc.ic.me, hq⟩⟩
      · rw [if_neg z] at e; cases e
  · cases e
  · rename_i d1 n1 n2
    cases e
    obtain ⟨v, rfl, r⟩ := rs.one
    cases id r with
    | non => exact fin (t := "NoneType") (by simp) (.base .non) rfl
    | bl b => exact fin (t := "bool") (by simp) (.base (.bl _)) rfl
    | int b => exact fin (t := "int") (by simp) (.base (.int _)) rfl
    | str b => exact fin (t := "str") (by simp) (.base (.str _)) rfl
    | ty b => exact absurd rfl (n2 _)
    | lst h _ => exact fin (t := "list") (by simp) (tyx_seqL h) rfl
    | tup h _ => exact fin (t := "tuple") (by simp) (tyx_seqT h) rfl
    | dic h _ => exact fin (t := "dict") (by simp) (tyx_dic h) rfl
    | ins h _ => exact absurd rfl (n1 _ _)
  · cases e
theorem bools_of {K : PySem.W.Frag} {H : Hp} : ∀ {vs : List V} {ds : List D} {bs : List Bool}, Reps K H vs ds → ds.mapM asBl = some bs → vs = bs.map V.bl
  | _, _, bs, .nil, e => by simp at e; subst e; rfl
  | _, _, bs, .cons (d := d) r t, e => by
    rw [List.mapM_cons] at e
    cases r <;> first | (cases (show (none : Option (List Bool)) = some bs from e); done) | skip
    rename_i b
    cases q : List.mapM (m := Option) asBl _ with
    | none => rw [q] at e; cases (show (none : Option (List Bool)) = some bs from e)
    | some bs' =>
      rw [q] at e
      cases (show some (b :: bs') = some bs from e)
      rw [bools_of t q]; rfl
theorem ints_of {K : PySem.W.Frag} {H : Hp} : ∀ {vs : List V} {ds : List D} {bs : List Int}, Reps K H vs ds → intsD ds = some bs → vs = bs.map V.int
  | _, _, bs, .nil, e => by simp [intsD] at e; subst e; rfl
  | _, _, bs, .cons (d := d) r t, e => by
    unfold intsD at e
    rw [List.mapM_cons] at e
    cases r <;> first | (cases (show (none : Option (List Int)) = some bs from e); done) | skip
    rename_i b
    cases q : List.mapM (m := Option) asInt _ with
    | none => rw [q] at e; cases (show (none : Option (List Int)) = some bs from e)
    | some bs' =>
      rw [q] at e
      cases (show some (b :: bs') = some bs from e)
      rw [ints_of t q]; rfl
theorem strs_of {K : PySem.W.Frag} {H : Hp} : ∀ {vs : List V} {ds : List D} {bs : List Str}, Reps K H vs ds → strsD ds = some bs → vs = bs.map V.str
  | _, _, bs, .nil, e => by simp [strsD] at e; subst e; rfl
  | _, _, bs, .cons (d := d) r t, e => by
    unfold strsD at e
    rw [List.mapM_cons] at e
    cases r <;> first | (cases (show (none : Option (List Str)) = some bs from e); done) | skip
    rename_i b
    cases q : List.mapM (m := Option) asStr _ with
    | none => rw [q] at e; cases (show (none : Option (List Str)) = some bs from e)
    | some bs' =>
      rw [q] at e
      cases (show some (b :: bs') = some bs from e)
      rw [strs_of t q]; rfl
theorem s_all : SOn X.K (rAll X.K) allD := by
  intro H xs ds d rs e
  unfold allD at e
  split at e
  · rename_i ds
    obtain ⟨v, rfl, r⟩ := rs.one
    cases r with
    | lst h r =>
      cases q : List.mapM (m := Option) asBl ds with
      | none => rw [q] at e; cases e
      | some bs =>
        rw [q] at e; cases e
        have z := bools_of r q
        subst z
        exact ⟨_, fun _ => .bl _, fun Q hq => ⟨_, bs, rfl, h, hq⟩⟩
  · cases e
theorem s_any : SOn X.K (rAny X.K) anyD := by
  intro H xs ds d rs e
  unfold anyD at e
  split at e
  · rename_i ds
    obtain ⟨v, rfl, r⟩ := rs.one
    cases r with
    | lst h r =>
      cases q : List.mapM (m := Option) asBl ds with
      | none => rw [q] at e; cases e
      | some bs =>
        rw [q] at e; cases e
        have z := bools_of r q
        subst z
        exact ⟨_, fun _ => .bl _, fun Q hq => ⟨_, bs, rfl, h, hq⟩⟩
  · cases e
theorem s_sum : SOn X.K (rSum X.K) sumD := by
  intro H xs ds d rs e
  unfold sumD at e
  split at e
  · rename_i ds
    obtain ⟨v, rfl, r⟩ := rs.one
    cases r with
    | lst h r =>
      cases q : intsD ds with
      | none => rw [q] at e; cases e
      | some bs =>
        rw [q] at e; cases e
        have z := ints_of r q
        subst z
        exact ⟨_, fun _ => .int _, fun Q hq => ⟨_, bs, rfl, h, hq⟩⟩
  · cases e
theorem s_max : SOn X.K (fun xs H Q => ∃ i j, xs = [.int i, .int j] ∧ Q (.int (if j > i then j else i)) H) maxD := by
  intro H xs ds d rs e
  unfold maxD at e
  split at e
  · cases e
    obtain ⟨v, w, rfl, r1, r2⟩ := rs.two
    rw [int_of r1 rfl, int_of r2 rfl]
    exact ⟨_, fun _ => .int _, fun Q hq => ⟨_, _, rfl, hq⟩⟩
  · cases e
theorem s_min : SOn X.K (fun xs H Q => ∃ i j, xs = [.int i, .int j] ∧ Q (.int (if j < i then j else i)) H) minD := by
  intro H xs ds d rs e
  unfold minD at e
  split at e
  · cases e
    obtain ⟨v, w, rfl, r1, r2⟩ := rs.two
    rw [int_of r1 rfl, int_of r2 rfl]
    exact ⟨_, fun _ => .int _, fun Q hq => ⟨_, _, rfl, hq⟩⟩
  · cases e
theorem s_abs : SOn X.K (fun xs H Q => ∃ i, xs = [.int i] ∧ Q (.int (if i < 0 then -i else i)) H) absD := by
  intro H xs ds d rs e
  unfold absD at e
  split at e
  · cases e
    obtain ⟨v, rfl, r1⟩ := rs.one
    rw [int_of r1 rfl]
    exact ⟨_, fun _ => .int _, fun Q hq => ⟨_, rfl, hq⟩⟩
  · cases e
theorem s_int : SOn X.K (fun xs H Q => (∃ i, xs = [.int i] ∧ Q (.int i) H) ∨ ∃ k, xs = [.bl k] ∧ Q (.int (if k then 1 else 0)) H) intD := by
  intro H xs ds d rs e
  unfold intD at e
  split at e
  · cases e
    obtain ⟨v, rfl, r1⟩ := rs.one
    rw [int_of r1 rfl]
    exact ⟨_, fun _ => .int _, fun Q hq => .inl ⟨_, rfl, hq⟩⟩
  · cases e
    obtain ⟨v, rfl, r1⟩ := rs.one
    cases r1
    exact ⟨_, fun _ => .int _, fun Q hq => .inr ⟨_, rfl, hq⟩⟩
  · cases e
theorem s_str : SOn X.K (fun xs H Q => ∃ i, xs = [.int i] ∧ i.natAbs.log2 < 1920 ∧ Q (.str (toString i)) H) strD := by
  intro H xs ds d rs e
  unfold strD at e
  split at e
  · rename_i i
    by_cases h : i.natAbs.log2 < 1920
    · rw [if_pos h] at e; cases e
      obtain ⟨v, rfl, r1⟩ := rs.one
      rw [int_of r1 rfl]
      exact ⟨_, fun _ => .str _, fun Q hq => ⟨_, rfl, h, hq⟩⟩
    · rw [if_neg h] at e; cases e
  · cases e
/-! new lists and dicts -/
def rSorted2 (K : PySem.W.Frag) : List V → Hp → VK → Prop := fun xs H Q => rSortedS K xs H Q ∨ ∃ (a : Addr) (kvs : List (Key × V)) (ks : List Str), xs = [.ref a] ∧ Rd H a (.dK kvs) ∧ kvs.map (·.1) = ks.map Sum.inr ∧ ks.length < 64 ∧
    ∀ ys p, ys.Perm ks → sortedS ys = true → H p = none → Q (.ref p) (upd H p (.lst (ys.map V.str)))
theorem c_sorted (hc : X.calm = true) : CallR X (.builtin "sorted") (rSorted2 X.K) := CallR.or cr_sortedS (call_sortedD hc)
theorem strs_reps {K : PySem.W.Frag} {G : Hp} : ∀ ys : List Str, Reps K G (ys.map V.str) (ys.map D.str)
  | [] => .nil
  | y :: ys => .cons (.str y) (strs_reps ys)
theorem keysS_of {K : PySem.W.Frag} {G : Hp} : ∀ {kvs : List (Key × V)} {kds : List (Key × D)} {xs : List Str}, RepK K G kvs kds → keysS kds = some xs → kvs.map (·.1) = xs.map Sum.inr
  | _, _, xs, .nil, e => by simp [keysS] at e; subst e; rfl
  | _, _, xs, .cons (k := k) r t, e => by
    unfold keysS at e
    rw [List.mapM_cons] at e
    cases k with
    | inl i => cases (show (none : Option (List Str)) = some xs from e)
    | inr x =>
      cases q : List.mapM (m := Option) (fun p : Key × D => match p.1 with | .inr x => some x | _ => none) _ with
      | none => rw [q] at e; cases (show (none : Option (List Str)) = some xs from e)
      | some bs' =>
        rw [q] at e
        cases (show some (x :: bs') = some xs from e)
        rw [List.map_cons, List.map_cons, keysS_of t q]
theorem f_sorted : FOr X.K (rSorted2 X.K) sortedR := by
  intro E H xs ds P T vw h Q k
  unfold sortedR at h
  split at h
  · rename_i ds
    obtain ⟨ss, e1, e2, h⟩ := h
    obtain ⟨v, rfl, a, vs, rfl, sq, rs⟩ := vw.one
    have z := strs_of rs e1
    subst z
    exact .inl ⟨a, ss, rfl, sq, e2, fun ys p hp hs hn => k p _ (.lst (ys.map .str)) hn ⟨_, upd_same, strs_reps ys⟩ (h ys hp hs)⟩
  · rename_i kds
    obtain ⟨ss, e1, e2, h⟩ := h
    obtain ⟨v, rfl, a, kvs, rfl, rd, rs⟩ := vw.one
    exact .inr ⟨a, kvs, ss, rfl, rd, keysS_of rs e1, e2, fun ys p hp hs hn => k p _ (.lst (ys.map .str)) hn ⟨_, upd_same, strs_reps ys⟩ (h ys hp hs)⟩
  · exact h.elim
def rList2 (K : PySem.W.Frag) : List V → Hp → VK → Prop := fun xs H Q => (∃ p ys, xs = [.ref p] ∧ (SqL K H p ys ∨ SqT K H p ys) ∧ ∀ l, H l = none → Q (.ref l) (upd H l (.lst ys))) ∨
  ∃ (a : Addr) (kvs : List (Key × V)), xs = [.ref a] ∧ Rd H a (.dK kvs) ∧ ∀ p, H p = none → Q (.ref p) (upd H p (.lst (kvs.map fun kv => kV kv.1)))
theorem c_list (hc : X.calm = true) : CallR X (.type "list") (rList2 X.K) := CallR.or call_list_of (call_listD hc)
theorem keys_reps {K : PySem.W.Frag} {E G : Hp} : ∀ {kvs : List (Key × V)} {kds : List (Key × D)}, RepK K E kvs kds → Reps K G (kvs.map fun kv => kV kv.1) (kds.map fun p => keyD p.1)
  | _, _, .nil => .nil
  | _, _, .cons r t => .cons (keyD_rep _) (keys_reps t)
theorem f_list : FOn X.K (rList2 X.K) listD := by
  intro E H xs ds d T vw h Q k
  unfold listD at h
  split at h
  · cases h
    obtain ⟨v, rfl, a, vs, rfl, sq, rs⟩ := vw.one
    exact .inl ⟨a, vs, rfl, .inl sq, fun l hl => k l _ hl ⟨_, upd_same, rs⟩⟩
  · cases h
    obtain ⟨v, rfl, a, vs, rfl, sq, rs⟩ := vw.one
    exact .inl ⟨a, vs, rfl, .inr sq, fun l hl => k l _ hl ⟨_, upd_same, rs⟩⟩
  · cases h
    obtain ⟨v, rfl, a, kvs, rfl, rd, rs⟩ := vw.one
    exact .inr ⟨a, kvs, rfl, rd, fun l hl => k l _ hl ⟨_, upd_same, keys_reps rs⟩⟩
  · cases h
def rDict2 (K : PySem.W.Frag) : List V → Hp → VK → Prop := fun xs H Q => (∃ (a : Addr) (kvs : List (Key × V)), xs = [.ref a] ∧ Rd H a (.dK kvs) ∧ ∀ p, H p = none → Q (.ref p) (upd H p (.dK kvs))) ∨
  ∃ (a : Addr) (ps : List Addr) (kvs : List (Key × V)), xs = [.ref a] ∧ SqL K H a (ps.map V.ref) ∧ Paired (fun p kv => SqT K H p [kV kv.1, kv.2]) ps kvs ∧ ∀ p, H p = none → Q (.ref p) (upd H p (.dK (mergeK [] kvs)))
theorem c_dict (hc : X.calm = true) : CallR X (.type "dict") (rDict2 X.K) := CallR.or call_dictD (call_dictP hc)
theorem pairs_rep {K : PySem.W.Frag} {E H : Hp} (T : Tr K E H) : ∀ {vs : List V} {ds : List D} {kds : List (Key × D)}, Reps K E vs ds → ds.mapM pairD = some kds → ∃ (ps : List Addr) (kvs : List (Key × V)), vs = ps.map V.ref ∧ Paired (fun p kv => SqT K H p [kV kv.1, kv.2]) ps kvs ∧ RepK K E kvs kds
  | _, _, kds, .nil, e => by simp at e; subst e; exact ⟨[], [], rfl, .nil, .nil⟩
  | _, _, kds, .cons (d := d) (ds := ds) r t, e => by
    rw [List.mapM_cons] at e
    cases q : pairD d with
    | none => rw [q] at e; cases (show (none : Option (List (Key × D))) = some kds from e)
    | some kv =>
      rw [q] at e
      cases q2 : ds.mapM pairD with
      | none => rw [q2] at e; cases (show (none : Option (List (Key × D))) = some kds from e)
      | some kds' =>
        rw [q2] at e
        cases (show some (kv :: kds') = some kds from e)
        obtain ⟨ps, kvs, rfl, hp, rk⟩ := pairs_rep T t q2
        unfold pairD at q
        split at q
        · rename_i k v
          cases q3 : dkey k with
          | none => rw [q3] at q; cases q
          | some kk =>
            rw [q3] at q; cases q
            cases r with
            | tup sq rs =>
              obtain ⟨x, y, rfl, r1, r2⟩ := rs.two
              refine ⟨_ :: ps, (kk, y) :: kvs, rfl, .cons ?_ hp, .cons r2 rk⟩
              rw [dkey_rep r1 q3] at sq
              exact T.t _ _ sq
        · cases q
theorem RepK.merge {K : PySem.W.Frag} {G : Hp} : ∀ {ms : List (Key × V)} {mds : List (Key × D)} {vs ds}, RepK K G vs ds → RepK K G ms mds → RepK K G (mergeK vs ms) (mergeD ds mds)
  | _, _, _, _, a, .nil => a
  | _, _, vs, ds, a, .cons (k := k) (v := v) (d := d) (vs := ms) (ds := mds) r t => by
    show RepK K G (mergeK (putK vs k v) ms) (mergeD (putD ds k d) mds)
    exact RepK.merge (a.put r) t
theorem f_dict : FOn X.K (rDict2 X.K) dictD := by
  intro E H xs ds d T vw h Q k
  unfold dictD at h
  split at h
  · cases h
    obtain ⟨v, rfl, a, kvs, rfl, rd, rs⟩ := vw.one
    exact .inl ⟨a, kvs, rfl, rd, fun l hl => k l _ hl ⟨_, upd_same, rs⟩⟩
  · rename_i ds
    cases q : ds.mapM pairD with
    | none => rw [q] at h; cases h
    | some kds =>
      rw [q] at h; cases h
      obtain ⟨v, rfl, a, vs, rfl, sq, rs⟩ := vw.one
      obtain ⟨ps, kvs, rfl, hp, rk⟩ := pairs_rep T rs q
      exact .inr ⟨a, ps, kvs, rfl, sq, hp, fun l hl => k l _ hl ⟨_, upd_same, RepK.merge .nil rk⟩⟩
  · cases h
end
end QD

set_option Elab.async false
set_option linter.all false
set_option maxRecDepth 100000
set_option maxHeartbeats 4000000
namespace QD
open PySem PySem.Spec L2 PyProof.Rows
/-! a op1 b op2 c -/
def uChain (f g : D → D → Option D) (ua ub uc : UE) : UE := fun XQ L QD => ua XQ L fun L1 a => ub XQ L1 fun L2 b => ∃ x y k, a.get L2 = some x ∧ b.get L2 = some y ∧ f x y = some (.bl k) ∧
  if k = true then uc XQ L2 fun L3 c => ∃ y' z d, b.get L3 = some y' ∧ c.get L3 = some z ∧ g y' z = some d ∧ QD L3 (.g d) else QD L2 (.g (.bl false))
section
variable {X : Cx} {E : XK} {a b c : Expr} {ua ub uc : UE} {pos : Pos} {f g : D → D → Option D} {r r' : R2}
theorem chain_core (hs : SO2 X.K r f) (hs' : SO2 X.K r' g) {ta tb tc : TE}
    (oa : ∀ F lk G L σ H Q QD XQ, Mem X.K F lk G L σ H → XLk X.K F lk E XQ → ua XQ L QD → (∀ v H' G' L' a, Same G G' → Mem X.K F lk G' L' σ H' → HR X.K F lk G' L' σ H' v a → (∀ d, a ≠ .f d) → QD L' a → Q v H') → ta σ H Q)
    (ob : ∀ F lk G L σ H Q QD XQ, Mem X.K F lk G L σ H → XLk X.K F lk E XQ → ub XQ L QD → (∀ v H' G' L' a, Same G G' → Mem X.K F lk G' L' σ H' → HR X.K F lk G' L' σ H' v a → (∀ d, a ≠ .f d) → QD L' a → Q v H') → tb σ H Q)
    (oc : ∀ F lk G L σ H Q QD XQ, Mem X.K F lk G L σ H → XLk X.K F lk E XQ → uc XQ L QD → (∀ v H' G' L' a, Same G G' → Mem X.K F lk G' L' σ H' → HR X.K F lk G' L' σ H' v a → (∀ d, a ≠ .f d) → QD L' a → Q v H') → tc σ H Q) :
    ∀ F lk G L σ H Q QD XQ, Mem X.K F lk G L σ H → XLk X.K F lk E XQ → uChain f g ua ub uc XQ L QD → Post X.K F lk G σ QD Q → tChain r r' ta tb tc σ H Q := by
  intro F lk G L σ H Q QD XQ M xl hu po
  refine oa F lk G L σ H _ _ XQ M xl hu fun x H1 G1 L1 aa s1 M1 r1 n1 q1 => ?_
  refine ob F lk G1 L1 σ H1 _ _ XQ M1 xl q1 fun y H2 G2 L2 bb s2 M2 r2 n2 q2 => ?_
  obtain ⟨dx, dy, k, e1, e2, e3, q⟩ := q2
  obtain ⟨w, rw', kk⟩ := hs H2 x y dx dy _ (M2.rep (r1.stay n1 s2) e1) (M2.rep r2 e2) e3
  refine kk _ ⟨k, by cases rw' H2; rfl, ?_⟩
  cases k with
  | false => exact po w H2 G2 L2 (.g (.bl false)) (s1.trans s2) M2 (rw' G2) q |> fun z => by cases rw' H2; exact z
  | true =>
    rw [if_pos rfl] at q ⊢
    refine oc F lk G2 L2 σ H2 _ _ XQ M2 xl q fun z H3 G3 L3 cc s3 M3 r3 n3 q3 => ?_
    obtain ⟨y', z', d, f1, f2, f3, q3⟩ := q3
    obtain ⟨w2, rw2, k2⟩ := hs' H3 y z y' z' d (M3.rep (r2.stay n2 s3) f1) (M3.rep r3 f2) f3
    exact k2 Q (po w2 H3 G3 L3 (.g d) ((s1.trans s2).trans s3) M3 (rw2 G3) q3)
theorem dx_chain {op op' : CmpOp} (ho : OpR X (compareOp op) r) (ho' : OpR X (compareOp op') r') (hs : SO2 X.K r f) (hs' : SO2 X.K r' g) (ha : DO X E a ua) (hb : DO X E b ub) (hc : DO X E c uc)
    (hm : lastMarks [op, op'] [b, c] = false := by with_unfolding_all rfl) : DX X E (.Compare a [op, op'] [b, c] pos) (uChain f g ua ub uc) := by
  obtain ⟨ta, pa, oa⟩ := ha.ex
  obtain ⟨tb, pb, ob⟩ := hb.ex
  obtain ⟨tc, pc, oc⟩ := hc.ex
  exact ⟨_, pe_chain ho ho' pa pb pc hm, chain_core hs hs' oa ob oc⟩
theorem dt_chain {op op' : CmpOp} (ho : OpR X (compareOp op) r) (ho' : OpR X (compareOp op') r') (hs : SO2 X.K r f) (hs' : SO2 X.K r' g) (ha : DO X E a ua) (hb : DO X E b ub) (hc : DO X E c uc)
    (hm : lastMarks [op, op'] [b, c] = false := by with_unfolding_all rfl) : DT X E (.Compare a [op, op'] [b, c] pos) (uB (uChain f g ua ub uc)) := by
  obtain ⟨ta, pa, oa⟩ := ha.ex
  obtain ⟨tb, pb, ob⟩ := hb.ex
  obtain ⟨tc, pc, oc⟩ := hc.ex
  refine ⟨_, pt_chain ho ho' pa pb pc hm, fun F lk G L σ H Q QD XQ M xl hu po => ?_⟩
  refine chain_core hs hs' oa ob oc F lk G L σ H _ (fun L' a => ∃ b, a.get L' = some (.bl b) ∧ QD L' b) XQ M xl hu fun x H1 G1 L1 aa s1 M1 r1 q1 => ?_
  obtain ⟨k, e1, q⟩ := q1
  exact ⟨k, HR.bl M1 r1 e1, po k H1 G1 L1 s1 M1 q⟩
/-- any two-place thing as a test -/
theorem dt_op2 {e : Expr} {fn : D → D → Option D} (pt : ∀ {ta tb}, PE X a ta → PE X b tb → PT X e (tB (tOp r ta tb))) (hs : SO2 X.K r fn) (ha : DO X E a ua) (hb : DO X E b ub) : DT X E e (uB (uS2 fn ua ub)) := by
  obtain ⟨ta, pa, oa⟩ := ha.ex
  obtain ⟨tb, pb, ob⟩ := hb.ex
  refine ⟨_, pt pa pb, fun F lk G L σ H Q QD XQ M xl hu po => ?_⟩
  refine oa F lk G L σ H _ _ XQ M xl hu fun x H1 G1 L1 aa s1 M1 r1 n1 q1 => ?_
  refine ob F lk G1 L1 σ H1 _ _ XQ M1 xl q1 fun y H2 G2 L2 bb s2 M2 r2 n2 q2 => ?_
  refine kS2 hs F lk G2 L2 σ H2 x y aa bb (fun L' a => ∃ b, a.get L' = some (.bl b) ∧ QD L' b) _ M2 (r1.stay n1 s2) r2 q2 fun v H' G' L' a s M' r q => ?_
  obtain ⟨k, e1, q⟩ := q
  exact ⟨k, HR.bl M' r e1, po k H' G' L' ((s1.trans s2).trans s) M' q⟩
end
/-! dicts: d[k], k in d, d.get -/
def ixK : D → D → Option D
  | .dic kds, y => (dkey y).bind (valD kds)
  | _, _ => none
def ixLD : D → D → Option D
  | .lst ds, .int i => atI ds i
  | _, _ => none
def ixTD : D → D → Option D
  | .tup ds, .int i => atI ds i
  | _, _ => none
def ixSD : D → D → Option D
  | .str z, .int i => if z.length ≤ sizeLine then (atI z.cps.toList i).map fun c => .str ⟨#[c]⟩ else none
  | _, _ => none
def rDG : R2 := fun x y H Q => ∃ a v, x = .ref a ∧ DGet H a y (some v) ∧ Q v H
def rIn : R2 := fun y x H Q => ∃ a o, x = .ref a ∧ DGet H a y o ∧ Q (.bl o.isSome) H
def rNin : R2 := fun y x H Q => ∃ a o, x = .ref a ∧ DGet H a y o ∧ Q (.bl (!o.isSome)) H
section
variable {X : Cx} {E : XK} {a b c : Expr} {ua ub uc : UE} {pos apos cpos : Pos}
theorem e_ixK : EO2 X.K rDG ixK := by
  intro E H x y d1 d2 d r1 r2 e
  cases d1 <;> first | (cases e; done) | skip
  rename_i kds
  obtain ⟨p, kvs, rfl, rd, rk⟩ := r1
  have e : (dkey d2).bind (valD kds) = some d := e
  cases q : dkey d2 with
  | none => rw [q] at e; cases e
  | some k =>
    rw [q] at e
    obtain ⟨v, hv, rv⟩ := rk.val.1 d e
    exact ⟨v, rv, fun Q qq => ⟨p, v, rfl, .inl ⟨kvs, k, rd, dkey_rep r2 q, hv.symm⟩, qq⟩⟩
theorem e_ixL : EO2 X.K (rIxL X.K) ixLD := by
  intro E H x y d1 d2 d r1 r2 e
  cases d1 <;> first | (cases e; done) | skip
  cases d2 <;> first | (cases e; done) | skip
  rename_i ds i
  obtain ⟨p, vs, rfl, sq, rs⟩ := r1
  obtain ⟨w, e1, r⟩ := atI_map rs e
  cases r2
  exact ⟨w, r, fun Q q => ⟨p, vs, i, w, rfl, rfl, sq, e1, q⟩⟩
theorem e_ixT : EO2 X.K (rIxT X.K) ixTD := by
  intro E H x y d1 d2 d r1 r2 e
  cases d1 <;> first | (cases e; done) | skip
  cases d2 <;> first | (cases e; done) | skip
  rename_i ds i
  obtain ⟨p, vs, rfl, sq, rs⟩ := r1
  obtain ⟨w, e1, r⟩ := atI_map rs e
  cases r2
  exact ⟨w, r, fun Q q => ⟨p, vs, i, w, rfl, rfl, sq, e1, q⟩⟩
theorem s_ixS : SO2 X.K rIxS ixSD := by
  intro H x y d1 d2 d r1 r2 e
  cases r1 <;> first | (cases e; done) | skip
  cases r2 <;> first | (cases e; done) | skip
  rename_i z i
  have e : (if z.length ≤ sizeLine then (atI z.cps.toList i).map fun c => D.str ⟨#[c]⟩ else none) = some d := e
  by_cases h : z.length ≤ sizeLine
  · rw [if_pos h] at e
    cases q : atI z.cps.toList i with
    | none => rw [q] at e; cases e
    | some c =>
      rw [q] at e; cases e
      exact ⟨_, fun G => .str _, fun Q qq => ⟨z, i, c, rfl, rfl, h, q, qq⟩⟩
  · rw [if_neg h] at e; cases e
theorem s_kin : SO2 X.K rIn kinD := by
  intro H x y d1 d2 d r1 r2 e
  cases r2 <;> first | (cases e; done) | skip
  rename_i p kvs kds rd rk
  have e : (dkey d1).map (fun k => D.bl (valD kds k).isSome) = some d := e
  cases q : dkey d1 with
  | none => rw [q] at e; cases e
  | some k =>
    rw [q] at e; cases e
    refine ⟨_, fun G => .bl _, fun Q qq => ⟨p, valV kvs k, rfl, .inl ⟨kvs, k, rd, dkey_rep r1 q, rfl⟩, ?_⟩⟩
    have : (valV kvs k).isSome = (valD kds k).isSome := by
      cases z : valD kds k with
      | none => rw [rk.val.2 z]; rfl
      | some d => obtain ⟨v, hv, _⟩ := rk.val.1 d z; rw [hv]; rfl
    rw [this]; exact qq
theorem s_knin : SO2 X.K rNin kninD := by
  intro H x y d1 d2 d r1 r2 e
  cases r2 <;> first | (cases e; done) | skip
  rename_i p kvs kds rd rk
  have e : (dkey d1).map (fun k => D.bl (!(valD kds k).isSome)) = some d := e
  cases q : dkey d1 with
  | none => rw [q] at e; cases e
  | some k =>
    rw [q] at e; cases e
    refine ⟨_, fun G => .bl _, fun Q qq => ⟨p, valV kvs k, rfl, .inl ⟨kvs, k, rd, dkey_rep r1 q, rfl⟩, ?_⟩⟩
    have : (valV kvs k).isSome = (valD kds k).isSome := by
      cases z : valD kds k with
      | none => rw [rk.val.2 z]; rfl
      | some d => obtain ⟨v, hv, _⟩ := rk.val.1 d z; rw [hv]; rfl
    rw [this]; exact qq
theorem dx_dget (hu : X.A.units + 1 < cLine) (hs : NoSl b) (ha : DO X E a ua) (hb : DO X E b ub) : DX X E (.Subscript a b pos) (uE2 ixK ua ub) := dx_op2 (fun pa pb => pe_dget hu pa pb hs) ha hb (kE2 e_ixK)
theorem dx_ixL (hp : PlainIx b) (ha : DO X E a ua) (hb : DO X E b ub) : DX X E (.Subscript a b pos) (uE2 ixLD ua ub) := dx_ix ix_list e_ixL hp ha hb
theorem dx_ixT (hp : PlainIx b) (ha : DO X E a ua) (hb : DO X E b ub) : DX X E (.Subscript a b pos) (uE2 ixTD ua ub) := dx_ix ix_tup e_ixT hp ha hb
theorem dx_ixS (hp : PlainIx b) (ha : DO X E a ua) (hb : DO X E b ub) : DX X E (.Subscript a b pos) (uS2 ixSD ua ub) := dx_op2 (fun pa pb => pe_ix ix_str pa pb hp) ha hb (kS2 s_ixS)
theorem dx_kin (hu : X.A.units + 1 < cLine) (hm : behindInMarks .In b = false) (ha : DO X E a ua) (hb : DO X E b ub) : DX X E (.Compare a [.In] [b] pos) (uS2 kinD ua ub) := dx_op2 (r := rIn) (fun pa pb => pe_cmp (pc_din hu pa pb) hm) ha hb (kS2 s_kin)
theorem dx_knin (hu : X.A.units + 1 < cLine) (hm : behindInMarks .NotIn b = false) (ha : DO X E a ua) (hb : DO X E b ub) : DX X E (.Compare a [.NotIn] [b] pos) (uS2 kninD ua ub) := dx_op2 (r := rNin) (fun pa pb => pe_cmp (pc_dnotin hu pa pb) hm) ha hb (kS2 s_knin)
theorem dt_kin (hu : X.A.units + 1 < cLine) (hm : behindInMarks .In b = false) (ha : DO X E a ua) (hb : DO X E b ub) : DT X E (.Compare a [.In] [b] pos) (uB (uS2 kinD ua ub)) := dt_op2 (r := rIn) (fun pa pb => pt_cmp (pc_din hu pa pb) hm) s_kin ha hb
theorem dt_knin (hu : X.A.units + 1 < cLine) (hm : behindInMarks .NotIn b = false) (ha : DO X E a ua) (hb : DO X E b ub) : DT X E (.Compare a [.NotIn] [b] pos) (uB (uS2 kninD ua ub)) := dt_op2 (r := rNin) (fun pa pb => pt_cmp (pc_dnotin hu pa pb) hm) s_knin ha hb
/-- d.get(k, x) -/
def isDic : Option D → Prop
  | some (.dic _) => True
  | _ => False
def uGet2 (ua ub uc : UE) : UE := fun XQ L QD => ua XQ L fun L1 a => isDic (a.get L1) ∧ ub XQ L1 fun L2 b => uc XQ L2 fun L3 c => ∃ kds y k, a.get L3 = some (.dic kds) ∧ b.get L3 = some y ∧ dkey y = some k ∧
  match valD kds k with
  | some v => QD L3 (a.el v)
  | none => QD L3 c
theorem dx_get2 (hu : X.A.units + 1 < cLine) (m : M2 X a "get" apos b c cpos) (ha : DO X E a ua) (hb : DO X E b ub) (hc : DO X E c uc) : DO X E (.Call (.Attribute a "get" apos) [b, c] [] cpos) (uGet2 ua ub uc) := by
  obtain ⟨ta, pa, oa⟩ := ha.ex
  obtain ⟨tb, pb, ob⟩ := hb.ex
  obtain ⟨tc, pc, oc⟩ := hc.ex
  refine ⟨_, pe_dget2 hu pa pb pc m, fun F lk G L σ H Q QD XQ M xl hu po => ?_⟩
  refine oa F lk G L σ H _ _ XQ M xl hu fun x H1 G1 L1 aa s1 M1 r1 n1 q1 => ?_
  obtain ⟨hd, q1⟩ := q1
  cases e0 : aa.get L1 with
  | none => rw [e0] at hd; exact hd.elim
  | some d0 =>
    rw [e0] at hd
    cases d0 <;> first | exact hd.elim | skip
    obtain ⟨p, kvs, rfl, rd, rk⟩ := M1.vw r1 e0
    refine ⟨p, rfl, .inl ⟨kvs, rd⟩, ?_⟩
    refine ob F lk G1 L1 σ H1 _ _ XQ M1 xl q1 fun y H2 G2 L2 bb s2 M2 r2 n2 q2 => ?_
    refine oc F lk G2 L2 σ H2 _ _ XQ M2 xl q2 fun z H3 G3 L3 cc s3 M3 r3 n3 q3 => ?_
    obtain ⟨kds, dy, k, e1, e2, e3, q3⟩ := q3
    have ra := r1.stay (L' := L3) (H' := H3) n1 (s2.trans s3)
    obtain ⟨p', kvs', e, rd', rk'⟩ := M3.vw ra e1
    cases e
    have rb := M3.rep (r2.stay n2 s3) e2
    refine ⟨valV kvs' k, .inl ⟨kvs', k, rd', dkey_rep rb e3, rfl⟩, ?_⟩
    cases qv : valD kds k with
    | some d =>
      rw [qv] at q3
      obtain ⟨v, hv, rv⟩ := rk'.val.1 d qv
      rw [hv]
      exact po v H3 G3 L3 (aa.el d) ((s1.trans s2).trans s3) M3 (HR.el rv) (fun _ => el_nf) q3
    | none =>
      rw [qv] at q3
      rw [rk'.val.2 qv]
      exact po z H3 G3 L3 cc ((s1.trans s2).trans s3) M3 r3 n3 q3
end
end QD

set_option Elab.async false
set_option linter.all false
set_option maxRecDepth 100000
set_option maxHeartbeats 4000000
namespace QD
open PySem PySem.Spec L2 PyProof.Rows
/-! isinstance(x, T), T a name -/
def uIs (fn : List D → Option D) (u : UE) : UE := fun XQ L QD => u XQ L fun L' a => ∃ d r, a.get L' = some d ∧ fn [d] = some r ∧ QD L' (.g r)
section
variable {X : Cx} {E : XK} {a b : Expr} {ua ub : UE} {pos p apos cpos : Pos} {fn : List D → Option D}
theorem dx_isi {c : V} {tp : Pos} {T : Str} (hc : PE X (.Name T tp) (tC c)) (hs : SOn X.K (rIsT X.K c) fn) (ha : DO X E a ua) (hg : Gl X "isinstance") (hm : X.mg "isinstance" = none) (hv : bootBuiltins "isinstance" = some (.builtin "isinstance"))
    (h1 : starEach [a, .Name T tp] X.env = (false, eval a X.env) :: starEach [.Name T tp] X.env := by rfl) (h2 : starEach [.Name T tp] X.env = (false, eval (.Name T tp) X.env) :: starEach [] X.env := by rfl) (hpl : (backTo pos (starEach [.Name T tp] X.env)).any (·.1) = false := by rfl) :
    DX X E (.Call (.Name "isinstance" p) [a, .Name T tp] [] pos) (uIs fn ua) := by
  obtain ⟨t, pa, ok⟩ := ha.ex
  refine ⟨_, pe_callB call_isi hg hm hv (pa_cons pa (pa_cons hc pa_nil h2) h1) (he := h1) (hpl := hpl), fun F lk G L σ H Q QD XQ M xl hu po => ?_⟩
  refine ok F lk G L σ H _ _ XQ M xl hu fun x H1 G1 L1 aa s1 M1 r1 n1 q1 => ?_
  obtain ⟨d, r, e1, e2, q⟩ := q1
  obtain ⟨w, rw', kk⟩ := hs H1 [x] [d] r (.cons (M1.rep r1 e1) .nil) e2
  obtain ⟨x', ex, h⟩ := kk _ (po w H1 G1 L1 (.g r) s1 M1 (rw' G1) q)
  cases ex
  exact h
end
/-! divmod: a tuple of two ints -/
def divmodD : List D → Option D
  | [.int i, .int j] => if 0 < j ∧ j < 1073741824 then some (.tup [.int (i / j), .int (i % j)]) else none
  | _ => none
/-- a new tuple comes: it is shared at once -/
def TOn (K : PySem.W.Frag) (r : List V → Hp → VK → Prop) (fn : List D → Option D) : Prop := ∀ (H : Hp) xs ds d, Reps K H xs ds → fn ds = some d → ∃ vs es, d = .tup es ∧ (∀ G, Reps K G vs es) ∧ ∀ Q : VK, (∀ p, H p = none → Q (.ref p) (upd H p (.tup vs))) → r xs H Q
section
variable {X : Cx} {E : XK} {es : List Expr} {w : UA} {r : List V → Hp → VK → Prop} {fn : List D → Option D}
theorem kTn (h : TOn X.K r fn) : ∀ F lk G L σ H vs as QD (Q : VK), Mem X.K F lk G L σ H → HRs X.K F lk G L σ H vs as → (∃ ds d, getAll L as = some ds ∧ fn ds = some d ∧ QD L (.g d)) → Post X.K F lk G σ QD Q → r vs H Q := by
  intro F lk G L σ H vs as QD Q M rs ⟨ds, d, e1, e2, q⟩ po
  obtain ⟨ws, es, rfl, rw', k⟩ := h H vs ds d (M.reps rs e1) e2
  refine k Q fun p hp => ?_
  obtain ⟨M', s'⟩ := M.madeG (o := .tup ws) hp
  exact po _ _ _ L (.g (.tup es)) s' M' (.tup (.of upd_same) (rw' _)) q
theorem dx_cbT {e' : Expr} (pe : ∀ {t}, PA X es t → PE X e' (tCB r t)) (hs : TOn X.K r fn) (ha : DA X E es w) : DX X E e' (uSn fn w) := dx_n (fun pa => pe pa) (fun t => rfl) ha rfl (kTn hs)
theorem t_divmod : TOn X.K (fun xs H Q => ∃ i j, xs = [.int i, .int j] ∧ CDiv i j ∧ ∀ p, H p = none → Q (.ref p) (upd H p (.tup [.int (i / j), .int (i % j)]))) divmodD := by
  intro H xs ds d rs e
  unfold divmodD at e
  split at e
  · rename_i i j
    by_cases h : 0 < j ∧ j < 1073741824
    · rw [if_pos h] at e; cases e
      obtain ⟨x, y, rfl, r1, r2⟩ := rs.two
      cases r1; cases r2
      exact ⟨_, _, rfl, fun G => .cons (.int _) (.cons (.int _) .nil), fun Q k => ⟨i, j, rfl, h, k⟩⟩
    · rw [if_neg h] at e; cases e
  · cases e
end
/-! ''.join(xs) -/
def joinD : D → D → Option D
  | .str a, .lst ds => (strsD ds).bind fun ys => if (ys.map (·.length)).sum + ys.length * a.length ≤ 16777216 then some (.str (Txt.join a ys)) else none
  | _, _ => none
def uJoin (ua ub : UE) : UE := fun XQ L QD => ua XQ L fun L1 a => (∃ z, a.get L1 = some (.str z)) ∧ ub XQ L1 fun L2 b => ∃ x y d, a.get L2 = some x ∧ b.get L2 = some y ∧ joinD x y = some d ∧ QD L2 (.g d)
section
variable {X : Cx} {E : XK} {a b : Expr} {ua ub : UE} {pos p apos cpos : Pos}
theorem dx_join (ha : DO X E a ua) (hb : DO X E b ub) (hs : starEach [b] X.env = [(false, eval b X.env)] := by rfl) (hbase : attributeBase a "join" X.env (eval a X.env) = eval a X.env := by rfl) (hline : (apos.endLine == pos.line) = true := by rfl) :
    DX X E (.Call (.Attribute a "join" apos) [b] [] pos) (uJoin ua ub) := by
  obtain ⟨ta, pa, oa⟩ := ha.ex
  obtain ⟨tb, pb, ob⟩ := hb.ex
  refine ⟨_, pe_join pa pb hs hbase hline, fun F lk G L σ H Q QD XQ M xl hu po => ?_⟩
  refine oa F lk G L σ H _ _ XQ M xl hu fun x H1 G1 L1 aa s1 M1 r1 n1 q1 => ?_
  obtain ⟨⟨z, ez⟩, q1⟩ := q1
  have hz := M1.rep r1 ez
  refine ⟨⟨z, str_of hz rfl⟩, ?_⟩
  refine ob F lk G1 L1 σ H1 _ _ XQ M1 xl q1 fun y H2 G2 L2 bb s2 M2 r2 n2 q2 => ?_
  obtain ⟨dx, dy, d, e1, e2, e3, q⟩ := q2
  have rx := M2.rep (r1.stay n1 s2) e1
  have ry := M2.rep r2 e2
  unfold joinD at e3
  split at e3
  · rename_i a0 ds
    cases q' : strsD ds with
    | none => rw [q'] at e3; cases e3
    | some ys =>
      rw [q'] at e3
      have e3 : (if (ys.map (·.length)).sum + ys.length * a0.length ≤ 16777216 then some (D.str (Txt.join a0 ys)) else none) = some d := e3
      by_cases h : (ys.map (·.length)).sum + ys.length * a0.length ≤ 16777216
      · rw [if_pos h] at e3; cases e3
        cases ry with
        | lst sq rs =>
          have z := strs_of rs q'
          subst z
          exact ⟨a0, _, ys, str_of rx rfl, rfl, .inl sq, h, po _ H2 G2 L2 (.g (.str _)) (s1.trans s2) M2 (.str _) q⟩
      · rw [if_neg h] at e3; cases e3
  · cases e3
end
/-! xs[::-1], xs + ys, xs * n -/
def revD : D → Option D
  | .lst ds => some (.lst ds.reverse)
  | _ => none
def catD : D → D → Option D
  | .lst xs, .lst ys => if xs.length + ys.length ≤ sizeLine then some (.lst (xs ++ ys)) else none
  | _, _ => none
def repD : D → D → Option D
  | .lst xs, .int k => if -(2 ^ 63) ≤ k ∧ k < 2 ^ 63 ∧ xs.length * k.toNat ≤ sizeLine then some (.lst (List.replicate k.toNat xs).flatten) else none
  | _, _ => none
def uF1 (fn : D → Option D) (ua : UE) : UE := fun XQ L QD => ua XQ L fun L a => ∃ x d, a.vg L = some x ∧ fn x = some d ∧ QD L (.f d)
theorem Reps.app {K : PySem.W.Frag} {G : Hp} : ∀ {vs ds ws es}, Reps K G vs ds → Reps K G ws es → Reps K G (vs ++ ws) (ds ++ es)
  | _, _, _, _, .nil, b => b
  | _, _, _, _, .cons r t, b => .cons r (t.app b)
theorem Reps.rev {K : PySem.W.Frag} {G : Hp} : ∀ {vs ds}, Reps K G vs ds → Reps K G vs.reverse ds.reverse
  | _, _, .nil => .nil
  | _, _, .cons r t => by rw [List.reverse_cons, List.reverse_cons]; exact t.rev.snoc r
theorem Reps.rep {K : PySem.W.Frag} {G : Hp} {vs ds} (h : Reps K G vs ds) : ∀ k : Nat, Reps K G (List.replicate k vs).flatten (List.replicate k ds).flatten
  | 0 => .nil
  | k + 1 => by
    rw [List.replicate_succ, List.replicate_succ, List.flatten_cons, List.flatten_cons]
    exact h.app (h.rep k)
theorem mulWide (l : Addr) (items : Array Value) (n : Nat) (dd : Option Addr) (sl : Array (Option Value)) (x : Int) (u : Tok) (hc0 : ¬(!Builtin.List.listFitsIndex x) = true) (hc1 : ¬items.size * x.toNat > (2 ^ 63 - 1) / 8) (hc2 : ¬Builtin.List.listTooLong (items.size * x.toNat) = true) :
    Meets (Builtin.«list.__mul__» ⟨[.ref l, .int x u], []⟩) (fun _ R s => (s.heap.get? l = some { cls := .type "list", dict := dd, data := .seq items n, slots := sl }) ∧ R (.ok (.ret (Value.ref s.heap.objs.size))) { s with heap := s.heap.push { cls := Value.type "list", data := Data.seq (List.foldl (fun x1 x2 => x1 ++ x2) #[] (List.replicate (if items.isEmpty = true then 0 else x.toNat) items)) }, toks := s.toks }) :=
  .of_wp fun prog w A R s h => by
    obtain ⟨hp, g, d, tk, os⟩ := s
    obtain ⟨hl, h⟩ := h
    wp_walk
    refine wpAny_ite_false (decide_eq_false (Nat.not_lt.mpr (AutoListH.joined_fits hc2))) ?_
    wp_walk
    exact ⟨_, rfl, h⟩
theorem rmulWide (a : Int) (t : Tok) (l : Addr) (items : Array Value) (n : Nat) (dd : Option Addr) (sl : Array (Option Value)) :
    Meets (Builtin.«int.__rmul__» ⟨[.int a t, .ref l], []⟩) (fun _ R s => (s.heap.get? l = some { cls := .type "list", dict := dd, data := .seq items n, slots := sl }) ∧ R (.ok (.ret Value.notImplemented)) s) :=
  .of_wp fun prog w A R s h => by
    obtain ⟨hp, g, d, tk, os⟩ := s
    obtain ⟨hl, h⟩ := h
    wp_walk
    exact ⟨_, rfl, h⟩

def rCatL (K : PySem.W.Frag) : R2 := fun x y H Q => ∃ l b xs zs, x = .ref l ∧ y = .ref b ∧ SqL K H l xs ∧ SqL K H b zs ∧ xs.length + zs.length ≤ sizeLine ∧ ∀ p, H p = none → Q (.ref p) (upd H p (.lst (xs ++ zs)))
def rRepL (K : PySem.W.Frag) : R2 := fun x y H Q => ∃ l k xs, x = .ref l ∧ y = .int k ∧ SqL K H l xs ∧ -(2 ^ 63) ≤ k ∧ k < 2 ^ 63 ∧ xs.length * k.toNat ≤ sizeLine ∧ ∀ p, H p = none → Q (.ref p) (upd H p (.lst (List.replicate k.toNat xs).flatten))
section
variable {X : Cx}
theorem op_catL : OpR X (binaryOp .Add) (rCatL X.K) := by
  intro pins s σ H x y v u Q I rx ry h
  obtain ⟨l, b, xs, zs, rfl, rfl, hH, hB, hz, q⟩ := h
  cases rx
  cases ry
  obtain ⟨its, r, ⟨⟨cls, dd, data, sl⟩, n, e, hc, _, hd⟩, _⟩ := I.list hH
  obtain ⟨its2, r2, ⟨⟨cls2, dd2, data2, sl2⟩, n2, e2, hc2, _, hd2⟩, _⟩ := I.list hB
  simp only at hc hd hc2 hd2
  subst hc hd hc2 hd2
  have ea : its.toArray ++ its2.toArray = (its ++ its2).toArray := by simp
  have l1 := r.length
  have l2 := r2.length
  refine concat_meets ⟨_, e, rfl⟩ ⟨_, e2, rfl⟩ noFill_list_add seq_list_add PySem.F.slot_list_add PySem.F.entry_list_add (PySem.F.args_list_add_2 _ _) (list_addW l b its.toArray its2.toArray n n2 dd dd2 sl sl2 (by rw [List.size_toArray, List.size_toArray]; omega)) ⟨e, e2, ?_⟩
  rw [ea]
  exact ⟨.ref _, _, I.lnew (t' := s.toks) (r.append r2) (by rw [List.length_append]; omega), rfl, q _ I.fresh⟩
theorem op_repL : OpR X (binaryOp .Mult) (rRepL X.K) := by
  intro pins s σ H x y v u Q I rx ry h
  obtain ⟨l, k, xs, rfl, rfl, hH, h1, h2, hz, q⟩ := h
  cases rx
  obtain ⟨t, rfl⟩ := ry
  obtain ⟨its, r, ⟨⟨cls, dd, data, sl⟩, n, e, hc, _, hd⟩, _⟩ := I.list hH
  simp only at hc hd
  subst hc hd
  have hl := r.length
  have fits : its.toArray.size * k.toNat ≤ sizeLine := by rw [List.size_toArray, ← hl]; exact hz
  have c1 : ¬ its.toArray.size * k.toNat > (2 ^ 63 - 1) / 8 := by
    have z : (sizeLine : Nat) ≤ (2 ^ 63 - 1) / 8 := by decide
    omega
  have c0 : ¬ (!Builtin.List.listFitsIndex k) = true := by rw [fitsIndex_both h1 h2]; exact Bool.false_ne_true
  have c2 : ¬ Builtin.List.listTooLong (its.toArray.size * k.toNat) = true := by rw [notLongL fits]; exact Bool.false_ne_true
  have made : List.foldl (fun x1 x2 => x1 ++ x2) #[] (List.replicate (if its.toArray.isEmpty = true then 0 else k.toNat) its.toArray) = (List.replicate k.toNat its).flatten.toArray := by
    have f0 : ∀ m : Nat, List.foldl (fun x1 x2 => x1 ++ x2) #[] (List.replicate m its.toArray) = (List.replicate m its).flatten.toArray := fun m => by
      have z := foldl_rep its m []
      rwa [List.nil_append] at z
    rw [f0]
    cases its with
    | nil => simp
    | cons a r' => rw [if_neg (by simp)]
  refine wpAny_binaryOp_repeat_ref (T := "list") (U := "int") (by decide) ⟨_, e, rfl⟩ (fun s' => typeIs_int s' k t) noFill_list_mul F.fills_int_mul F.slot_int_rmul repeat_list F.slot_int_index.lookup ?_
  refine call_meets F.slot_int_rmul (typeIs_int s k t) F.entry_int_rmul (F.args_int_rmul_2 _ _) (rmulWide k t l its.toArray n dd sl) ⟨e, rfl, ⟨_, e, rfl⟩, ?_⟩
  refine call_meets F.slot_list_mul ⟨_, e, rfl⟩ F.entry_list_mul (F.args_list_mul_2 _ _) (mulWide l its.toArray n dd sl k t c0 c1 c2) ⟨e, ?_⟩
  rw [made]
  exact ⟨.ref _, _, I.lnew (t' := s.toks) (r.rep k.toNat) (by rw [PyProof.Rows.lm_len_rep_flat, Nat.mul_comm]; exact hz), rfl, q _ I.fresh⟩
theorem f_cat : FO2 X.K (rCatL X.K) catD := by
  intro E H x y d1 d2 d r1 r2 e Q k
  cases d1 <;> first | (cases e; done) | skip
  cases d2 <;> first | (cases e; done) | skip
  rename_i xs ys
  have e : (if xs.length + ys.length ≤ sizeLine then some (D.lst (xs ++ ys)) else none) = some d := e
  by_cases h : xs.length + ys.length ≤ sizeLine
  · rw [if_pos h] at e; cases e
    obtain ⟨a, vs, rfl, sq, rs⟩ := r1
    obtain ⟨b, ws, rfl, sq2, rs2⟩ := r2
    exact ⟨a, b, vs, ws, rfl, rfl, sq, sq2, by rw [rs.len, rs2.len]; exact h, fun p hp => k p _ hp ⟨_, upd_same, rs.app rs2⟩⟩
  · rw [if_neg h] at e; cases e
theorem f_rep : FO2 X.K (rRepL X.K) repD := by
  intro E H x y d1 d2 d r1 r2 e Q k
  cases d1 <;> first | (cases e; done) | skip
  cases d2 <;> first | (cases e; done) | skip
  rename_i xs i
  have e : (if -(2 ^ 63) ≤ i ∧ i < 2 ^ 63 ∧ xs.length * i.toNat ≤ sizeLine then some (D.lst (List.replicate i.toNat xs).flatten) else none) = some d := e
  by_cases h : -(2 ^ 63) ≤ i ∧ i < 2 ^ 63 ∧ xs.length * i.toNat ≤ sizeLine
  · rw [if_pos h] at e; cases e
    obtain ⟨a, vs, rfl, sq, rs⟩ := r1
    have r2 : Rep X.K E y (.int i) := r2
    cases r2
    exact ⟨a, i, vs, rfl, rfl, sq, h.1, h.2.1, by rw [rs.len]; exact h.2.2, fun p hp => k p _ hp ⟨_, upd_same, rs.rep _⟩⟩
  · rw [if_neg h] at e; cases e
variable {E : XK} {a b : Expr} {ua ub : UE} {pos p1 p2 p3 : Pos} {j : Nat}
theorem dx_rev (ha : DO X E a ua) (hp : ∀ {t}, PE X a t → PE X b (tRevL X.K t)) : DX X E b (uF1 revD ua) := by
  obtain ⟨t, pa, ok⟩ := ha.ex
  refine ⟨_, hp pa, fun F lk G L σ H Q QD XQ M xl hu po => ?_⟩
  refine ok F lk G L σ H _ _ XQ M xl hu fun x H1 G1 L1 aa s1 M1 r1 n1 q1 => ?_
  obtain ⟨d1, d, e1, e2, q⟩ := q1
  cases d1 <;> first | (cases e2; done) | skip
  cases e2
  obtain ⟨p, vs, rfl, sq, rs⟩ := M1.vwG r1 e1
  refine ⟨p, vs, rfl, sq, fun c hc => ?_⟩
  obtain ⟨M', h'⟩ := M1.made (d := .lst _) hc ⟨_, upd_same, rs.rev⟩
  exact po _ _ G1 L1 _ s1 M' h' q
end
end QD

set_option Elab.async false
set_option linter.all false
set_option maxRecDepth 100000
set_option maxHeartbeats 4000000
namespace QD
open PySem PySem.Spec L2 PyProof.Rows
/-! changes of one's own containers -/
section
variable {K : PySem.W.Frag} {F : FB} {lk : Lk} {G : Hp} {L : Env'} {σ : St} {H : Hp}
theorem Mem.ownV (M : Mem K F lk G L σ H) {i : Nat} {d : D} (h : ownAt L i = some d) : ∃ p, σ[i]? = some (some (.ref p)) ∧ Own K G H p d := by
  obtain ⟨c, h1, h2⟩ := ownAt_some h
  obtain ⟨v, e, r⟩ := M.sl i c h1
  obtain ⟨a, rfl, o⟩ := M.slot h e
  exact ⟨a, e, o⟩
/-- the same place later -/
theorem Mem.ownS (M : Mem K F lk G L σ H) {i : Nat} {d : D} {p : Addr} (h : ownAt L i = some d) (e : σ[i]? = some (some (.ref p))) : Own K G H p d := by
  obtain ⟨a, e', o⟩ := M.slot h e
  cases e'
  exact o
theorem Mem.ownW (M : Mem K F lk G L σ H) {i : Nat} {d d' : D} {p : Addr} {o : HO} (h : ownAt L i = some d) (e : σ[i]? = some (some (.ref p))) (ow : Own K G (upd H p o) p d') : Mem K F lk G (putO L i d') σ (upd H p o) :=
  M.write h e (fun b u hb q => by rw [upd_ne hb]; exact q) ow
end
def uApp (i : Nat) (ue : UG) : US := fun XQ DD L => (∃ ds, ownAt L i = some (.lst ds)) ∧ ue XQ L fun L' d => ∃ ds, ownAt L' i = some (.lst ds) ∧ ds.length < sizeLine ∧ DD.nx (putO L' i (.lst (ds ++ [d])))
def uClr (i : Nat) : US := fun _ DD L => ∃ kds, ownAt L i = some (.dic kds) ∧ DD.nx (putO L i (.dic []))
def uPut (i : Nat) (ue : UG) (uk : UE) : US := fun XQ DD L => ue XQ L fun L1 d => (∃ kds, ownAt L1 i = some (.dic kds)) ∧ uk XQ L1 fun L2 b => ∃ kds y k, ownAt L2 i = some (.dic kds) ∧ b.get L2 = some y ∧ dkey y = some k ∧ kds.length < sizeLine ∧ DD.nx (putO L2 i (.dic (putD kds k d)))
def uLPut (i : Nat) (ue : UG) (uk : UE) : US := fun XQ DD L => ue XQ L fun L1 d => (∃ ds, ownAt L1 i = some (.lst ds)) ∧ uk XQ L1 fun L2 b => ∃ ds k j, ownAt L2 i = some (.lst ds) ∧ b.get L2 = some (.int k) ∧ ixN ds.length k = some j ∧ DD.nx (putO L2 i (.lst (ds.set j d)))
def putFD (f : Str) (d : D) : List (Str × D) → List (Str × D)
  | [] => [(f, d)]
  | (g, x) :: r => if g = f then (g, d) :: r else (g, x) :: putFD f d r
def uFld (C : Addr) (f : Str) (i : Nat) (ue : UG) : US := fun XQ DD L => ue XQ L fun L1 d => ∃ gs, ownAt L1 i = some (.ins C gs) ∧ gs.length < 1000 ∧ DD.nx (putO L1 i (.ins C (putFD f d gs)))
def uAsg (ue : UE) (w : UTg) : US := fun XQ DD L => uO ue XQ L fun L' a => w L' a DD.nx
def gLPut (i : Nat) (k : Int) : UTg := fun L a QD => ∃ d ds j, a = .g d ∧ ownAt L i = some (.lst ds) ∧ ixN ds.length k = some j ∧ QD (putO L i (.lst (ds.set j d)))
def uAug (f : Int → Int → Int) (i : Nat) (ue : UE) : US := fun XQ DD L => ∃ a, L[i]? = some (some (.g (.int a))) ∧ ue XQ L fun L' b => ∃ m, b.get L' = some (.int m) ∧ notP L' i = true ∧ DD.nx (L'.set i (some (.g (.int (f a m)))))
theorem Reps.set {K : PySem.W.Frag} {G : Hp} {v : V} {d : D} (r : Rep K G v d) : ∀ {vs ds} {j : Nat}, Reps K G vs ds → Reps K G (vs.set j v) (ds.set j d)
  | _, _, _, .nil => .nil
  | _, _, 0, .cons _ t => .cons r t
  | _, _, j + 1, .cons q t => .cons q (t.set r)
theorem RepF.put {K : PySem.W.Frag} {G : Hp} {f : Str} {v : V} {d : D} (r : Rep K G v d) : ∀ {fs gs}, RepF K G fs gs → RepF K G (putF f v fs) (putFD f d gs)
  | _, _, .nil => .cons r .nil
  | _, _, .cons (k := k) q t => by
    unfold putF putFD
    by_cases h : k = f
    · rw [if_pos h, if_pos h]; exact .cons r t
    · rw [if_neg h, if_neg h]; exact .cons q (t.put r)
theorem RepF.len {K : PySem.W.Frag} {G : Hp} : ∀ {fs gs}, RepF K G fs gs → fs.length = gs.length
  | _, _, .nil => rfl
  | _, _, .cons _ t => by simp [t.len]
theorem kV_of {K : PySem.W.Frag} {H : Hp} {y : V} {d : D} {k : Key} (r : Rep K H y d) (e : dkey d = some k) : y = kV k := dkey_rep r e
section
variable {X : Cx} {E : XK} {e value ix : Expr} {ue : UG} {uk u : UE} {pos pos' apos cpos : Pos} {st : Stmt}
theorem ds_app (i : Nat) (he : DG X E e ue) (ps : ∀ {t}, PE X e t → PS X st (tDrop (tBM X.K "list" rAppend (tVar i) (tCons t tNil)))) : DS X E st (uApp i ue) := by
  obtain ⟨t, pe, ok⟩ := he.ex
  refine ⟨_, ps pe, fun F lk G L σ H Dn DD XQ M xl hu l => ?_⟩
  obtain ⟨⟨ds, h0⟩, hu⟩ := hu
  obtain ⟨p, ev, o⟩ := M.ownV h0
  obtain ⟨vs, hp, rs⟩ := o
  refine ⟨.ref p, ev, .inl ⟨rfl, vs, .of hp⟩, ?_⟩
  refine ok F lk G L σ H _ _ XQ M xl hu fun y H1 G1 L1 d s1 M1 r1 q1 => ?_
  obtain ⟨ds1, h1, hl, q1⟩ := q1
  obtain ⟨vs1, hp1, rs1⟩ := M1.ownS h1 ev
  refine ⟨p, vs1, y, rfl, rfl, hp1, by rw [rs1.len]; exact hl, ?_⟩
  exact l.nx G1 _ σ _ s1 (M1.ownW (d' := .lst (ds1 ++ [d])) h1 ev ⟨_, upd_same, rs1.snoc r1⟩) q1
theorem ds_clr (i : Nat) (ps : PS X st (tDrop (tBM0 X.K "dict" rDClear (tVar i)))) : DS X E st (uClr i) := by
  refine ⟨_, ps, fun F lk G L σ H Dn DD XQ M xl hu l => ?_⟩
  obtain ⟨kds, h0, q⟩ := hu
  obtain ⟨p, ev, kvs, hp, rs⟩ := M.ownV h0
  refine ⟨.ref p, ev, .inr (.inr (.inl ⟨rfl, .inl ⟨kvs, hp⟩⟩)), p, kvs, rfl, rfl, hp, ?_⟩
  exact l.nx G _ σ _ (.refl _) (M.ownW (d' := .dic []) h0 ev ⟨_, upd_same, .nil⟩) q
theorem ds_put (i : Nat) (he : DG X E value ue) (hk : DO X E ix uk) (ps : ∀ {t tk}, PE X value t → PE X ix tk → PS X st (sDPut (tVar i) tk t)) : DS X E st (uPut i ue uk) := by
  obtain ⟨t, pe, ok⟩ := he.ex
  obtain ⟨tk, pk, okk⟩ := hk.ex
  refine ⟨_, ps pe pk, fun F lk G L σ H Dn DD XQ M xl hu l => ?_⟩
  refine ok F lk G L σ H _ _ XQ M xl hu fun y H1 G1 L1 d s1 M1 r1 q1 => ?_
  obtain ⟨⟨kds0, h0⟩, q1⟩ := q1
  obtain ⟨p, ev, _⟩ := M1.ownV h0
  refine ⟨.ref p, ev, ?_⟩
  refine okk F lk G1 L1 σ H1 _ _ XQ M1 xl q1 fun z H2 G2 L2 b s2 M2 r2 n2 q2 => ?_
  obtain ⟨kds, dy, k, h2, e1, e2, hl, q2⟩ := q2
  obtain ⟨kvs, hp, rs⟩ := M2.ownS h2 ev
  refine ⟨p, _, rfl, .inl ⟨kvs, k, hp, dkey_rep (M2.rep r2 e1) e2, by rw [rs.len]; exact hl, rfl⟩, ?_⟩
  exact l.nx G2 _ σ _ (s1.trans s2) (M2.ownW (d' := .dic (putD kds k d)) h2 ev ⟨_, upd_same, rs.put (Rep.tr (Tr.same s2) r1)⟩) q2
theorem ds_lput (i : Nat) (he : DG X E value ue) (hk : DO X E ix uk) (ps : ∀ {t tk}, PE X value t → PE X ix tk → PS X st (tAsg t (gSub (tVar i) tk rSetL))) : DS X E st (uLPut i ue uk) := by
  obtain ⟨t, pe, ok⟩ := he.ex
  obtain ⟨tk, pk, okk⟩ := hk.ex
  refine ⟨_, ps pe pk, fun F lk G L σ H Dn DD XQ M xl hu l => ?_⟩
  refine ok F lk G L σ H _ _ XQ M xl hu fun y H1 G1 L1 d s1 M1 r1 q1 => ?_
  obtain ⟨⟨ds0, h0⟩, q1⟩ := q1
  obtain ⟨p, ev, _⟩ := M1.ownV h0
  refine ⟨.ref p, ev, ?_⟩
  refine okk F lk G1 L1 σ H1 _ _ XQ M1 xl q1 fun z H2 G2 L2 b s2 M2 r2 n2 q2 => ?_
  obtain ⟨ds, k, j, h2, e1, e2, q2⟩ := q2
  obtain ⟨vs, hp, rs⟩ := M2.ownS h2 ev
  have hz := int_of (M2.rep r2 e1) rfl
  refine ⟨p, vs, k, j, rfl, hz, hp, by rw [rs.len]; exact e2, ?_⟩
  exact l.nx G2 _ σ _ (s1.trans s2) (M2.ownW (d' := .lst (ds.set j d)) h2 ev ⟨_, upd_same, rs.set (Rep.tr (Tr.same s2) r1)⟩) q2
theorem ds_fld {C : Addr} {f : Str} (i : Nat) (he : DG X E value ue) (c : Cls X.K C) (na : NoAttr X.K C f) (ps : ∀ {t}, PE X value t → PS X st (sFld X.K (tVar i) t f)) : DS X E st (uFld C f i ue) := by
  obtain ⟨t, pe, ok⟩ := he.ex
  refine ⟨_, ps pe, fun F lk G L σ H Dn DD XQ M xl hu l => ?_⟩
  refine ok F lk G L σ H _ _ XQ M xl hu fun y H1 G1 L1 d s1 M1 r1 q1 => ?_
  obtain ⟨gs, h0, hl, q1⟩ := q1
  obtain ⟨p, ev, dx, fs, hp, rs⟩ := M1.ownV h0
  refine ⟨.ref p, ev, p, C, dx, fs, rfl, hp, c, na, by rw [rs.len]; exact hl, ?_⟩
  exact l.nx G1 _ σ _ s1 (M1.ownW (d' := .ins C (putFD f d gs)) h0 ev ⟨dx, _, upd_same, rs.put r1⟩) q1
theorem ds_asg {tg : Expr} {sl : List Nat} {w : UTg} (he : DX X E e u) (hg : DTg X tg sl w) (ps : ∀ {t g}, PE X e t → PG X tg g → PS X st (tAsg t g)) : DS X E st (uAsg u w) := by
  obtain ⟨t, pe, ok⟩ := (do_of he).ex
  obtain ⟨g, pg, okg⟩ := hg.ex
  refine ⟨_, ps pe pg, fun F lk G L σ H Dn DD XQ M xl hu l => ?_⟩
  refine ok F lk G L σ H _ _ XQ M xl hu fun x H1 G1 L1 a s1 M1 r1 n1 q1 => ?_
  exact okg F lk G1 L1 σ H1 x a _ _ M1 r1 n1 q1 fun σ' G' L' H' s M' _ q => l.nx G' L' σ' H' (s1.trans s) M' q
theorem dtg_lput (i : Nat) (k : Int) {tg : Expr} (pg : PG X tg (gSub (tVar i) (tC (.int k)) rSetL)) : DTg X tg [] (gLPut i k) := by
  refine ⟨_, pg, fun F lk G L σ H x a Q QD M r nf hu po => ?_⟩
  obtain ⟨d, ds, j, rfl, h0, e, q⟩ := hu
  obtain ⟨p, ev, vs, hp, rs⟩ := M.ownV h0
  refine ⟨.ref p, ev, p, vs, k, j, rfl, rfl, hp, by rw [rs.len]; exact e, ?_⟩
  exact po σ G _ _ (.refl _) (M.ownW (d' := .lst (ds.set j d)) h0 ev ⟨_, upd_same, rs.set r⟩) (fun _ _ => rfl) q
theorem ds_aug (i : Nat) {f : Int → Int → Int} (he : DO X E e u) (ps : ∀ {t}, PE X e t → PS X st (tAug i t (ipI f))) : DS X E st (uAug f i u) := by
  obtain ⟨t, pe, ok⟩ := he.ex
  refine ⟨_, ps pe, fun F lk G L σ H Dn DD XQ M xl hu l => ?_⟩
  obtain ⟨a, h0, hu⟩ := hu
  obtain ⟨v, ev, r⟩ := M.sl i _ h0
  cases (show Rep X.K G v (.int a) from r)
  refine ⟨_, ev, ?_⟩
  refine ok F lk G L σ H _ _ XQ M xl hu fun y H1 G1 L1 b s1 M1 r1 n1 q1 => ?_
  obtain ⟨m, e1, hn, q1⟩ := q1
  have hy := int_of (M1.rep r1 e1) rfl
  refine ⟨a, m, rfl, hy, ?_⟩
  exact l.nx G1 _ _ H1 s1 (M1.set (c := .g (.int (f a m))) hn (.int _) (fun _ z => nomatch z) (fun _ _ z => nomatch z)) q1
end
/-! displays of dicts -/
def uDic0 : UE := fun _ L QD => QD L (.f (.dic []))
abbrev UP2 := XP → Env' → (Env' → List (Key × D) → Prop) → Prop
structure DPs (X : Cx) (E : XK) (pos : Pos) (keys : List (Option Expr)) (values : List Expr) (u : UP2) : Prop where
  ex : ∃ trs, PPs X pos keys values trs ∧ ∀ F lk G L σ H (Q : List (V × V) → Hp → Prop) QD XQ, Mem X.K F lk G L σ H → XLk X.K F lk E XQ → u XQ L QD →
    (∀ kvs kds H' G' L', Same G G' → Mem X.K F lk G' L' σ H' → RepK X.K G' kvs kds → QD L' kds → Q (kvs.map fun kv => (kV kv.1, kv.2)) H') → tPairs trs σ H Q
def uPs0 : UP2 := fun _ L QD => QD L []
def uPs (uk : UE) (uv : UG) (w : UP2) : UP2 := fun XQ L QD => uk XQ L fun L1 b => ∃ y k, b.get L1 = some y ∧ dkey y = some k ∧ uv XQ L1 fun L2 d => w XQ L2 fun L3 kds => QD L3 ((k, d) :: kds)
def uDic (w : UP2) : UE := fun XQ L QD => w XQ L fun L' kds => QD L' (.f (.dic (mergeD [] kds)))
section
variable {X : Cx} {E : XK} {pos : Pos} {keys : List (Option Expr)} {values : List Expr} {w : UP2} {k v : Expr} {uk : UE} {uv : UG}
theorem dx_dic0 : DX X E (.Dict [] [] pos) uDic0 := by
  refine ⟨_, pe_dnewK, fun F lk G L σ H Q QD XQ M xl hu po => ?_⟩
  intro p hp
  obtain ⟨M', h'⟩ := M.made (d := .dic []) hp ⟨[], upd_same, .nil⟩
  exact po _ _ G L (.f (.dic [])) (.refl _) M' h' hu
theorem dps_nil : DPs X E pos [] [] uPs0 := ⟨[], pps_nil, fun F lk G L σ H Q QD XQ M xl hu po => po [] [] H G L (.refl _) M .nil hu⟩
theorem dps_cons (hk : DO X E k uk) (hv : DG X E v uv) (hr : DPs X E pos keys values w) : DPs X E pos (some k :: keys) (v :: values) (uPs uk uv w) := by
  obtain ⟨tk, pk, okk⟩ := hk.ex
  obtain ⟨tv, pv, okv⟩ := hv.ex
  obtain ⟨trs, pr, okr⟩ := hr.ex
  refine ⟨_, pps_cons pk pv pr, fun F lk G L σ H Q QD XQ M xl hu po => ?_⟩
  refine okk F lk G L σ H _ _ XQ M xl hu fun x H1 G1 L1 b s1 M1 r1 n1 q1 => ?_
  obtain ⟨y, k0, e1, e2, q1⟩ := q1
  have hx := dkey_rep (M1.rep r1 e1) e2
  subst hx
  refine okv F lk G1 L1 σ H1 _ _ XQ M1 xl q1 fun z H2 G2 L2 d s2 M2 r2 q2 => ?_
  refine okr F lk G2 L2 σ H2 _ _ XQ M2 xl q2 fun kvs kds H3 G3 L3 s3 M3 r3 q3 => ?_
  exact po ((k0, z) :: kvs) ((k0, d) :: kds) H3 G3 L3 ((s1.trans s2).trans s3) M3 (.cons (Rep.tr (Tr.same s3) r2) r3) q3
theorem dx_dic (hp : DPs X E pos keys values w) (h15 : keys.length ≤ 15) (hall : keys.all (·.isSome) = true) (hl : keys.length = values.length) (h0 : keys ≠ []) (hlen : ∀ XQ L QD, w XQ L QD → w XQ L fun L' kds => kds.length ≤ 15 ∧ QD L' kds) : DX X E (.Dict keys values pos) (uDic w) := by
  obtain ⟨trs, pr, ok⟩ := hp.ex
  refine ⟨_, pe_disp pr hall hl h0 h15, fun F lk G L σ H Q QD XQ M xl hu po => ?_⟩
  intro p hf
  have M0 : Mem X.K F lk G L σ (upd H p (.dK [])) := M.grow (same_upd hf)
  have l0 : Lone F lk G L σ p := ⟨M.gnone hf, M.bnone hf, M.lknone hf, M.dom p hf, M.noaddr hf⟩
  have Mg := M0.guard upd_same l0
  refine ok (F.grd G p (.dK [])) lk G L σ _ _ _ XQ Mg (XLk.guard (o := .dK []) M0 l0 xl) (hlen _ _ _ hu) fun kvs kds H1 G1 L1 s1 M1 r1 q1 => ?_
  obtain ⟨M2, h2, l2⟩ := Mem.unguard M0 l0 M1
  refine ⟨h2, kvs, rfl, by rw [r1.len]; exact q1.1, ?_⟩
  exact po (.ref p) _ G1 L1 (.f (.dic (mergeD [] kds))) s1 (M2.lone l2) ⟨p, rfl, ⟨_, upd_same, RepK.merge .nil r1⟩, l2.g, l2.k, l2.l, l2.h, l2.s⟩ q1.2
end
end QD

set_option Elab.async false
set_option linter.all false
set_option maxRecDepth 100000
set_option maxHeartbeats 4000000
namespace QD
open PySem PySem.Spec L2 PyProof.Rows
/-! operators of one's own classes -/
structure OpF (X : Cx) (C : Addr) (m : Str) (f : Addr) : Prop where
  at_ : PySem.W.findIn X.K (.ref C) m = some (some (.ref f))
  fn : PySem.W.isFn X.K (.ref f) = true
def rOwB (C : Addr) (sp : Sp) : R2 := fun x y H Q => ∃ a dx fs b dy gs, x = .ref a ∧ y = .ref b ∧ H a = some (.ins C dx fs) ∧ H b = some (.ins C dy gs) ∧ sp [x, y] H Q E0
def rOwI (C : Addr) (sp : Sp) : R2 := fun x y H Q => ∃ a dx fs j, x = .ref a ∧ y = .int j ∧ H a = some (.ins C dx fs) ∧ sp [x, y] H Q E0
def rOwN (C : Addr) (sp : Sp) : V → Hp → VK → Prop := fun x H Q => ∃ a dx fs, x = .ref a ∧ H a = some (.ins C dx fs) ∧ sp [x] H Q E0
section
variable {X : Cx} {C f : Addr} {fd : FuncData} {ps : List Str} {sp : Sp} {n : Nat} {op : Operator}
theorem op_owB (hc : PySem.W.selfFirst X.K C = true) (o : OpF X C (PySem.dunder op.info.2) f) (F : FnOk X.prog X.w X.K X.mg X.base CX0 n f fd ps sp) (hr : Room n X.A) (hb : Binds X.K fd ps []) : OpR X (binaryOp op) (rOwB C sp) := by
  intro pins s σ H x y v u Q I rx ry h
  obtain ⟨a, dx, fs, b, dy, gs, rfl, rfl, ha, hb', q⟩ := h
  cases (show v = Value.ref a from rx)
  cases (show u = Value.ref b from ry)
  obtain ⟨mA, J, _⟩ := ins_get I.hok ha
  obtain ⟨mB, J', _⟩ := ins_get I.hok hb'
  obtain ⟨od, J, _⟩ := J.look
  obtain ⟨od', J', _⟩ := J'.look
  obtain ⟨m, hF⟩ := I.fr
  refine PySem.W.binop_K (op := op) hF I.ok.mod.kin J J'.type hc o.at_ o.fn ?_
  refine wpAny_mono (run_fn (us := [.ref a, .ref b]) (vs := [.ref a, .ref b]) (dvs := []) F hr hb .nil pass0 I (.cons rfl (.cons rfl .nil)) q) (fun w s' z => ?_) fun _ _ x => x
  obtain ⟨z', H', I', rz, qz⟩ := z
  exact SlX.cmpback rz ⟨z', H', I', rz, qz⟩
theorem op_owI {fo ro rc : Option Value} (hc : PySem.W.selfFirst X.K C = true) (o : OpF X C (PySem.dunder op.info.2) f) (F : FnOk X.prog X.w X.K X.mg X.base CX0 n f fd ps sp) (hr : Room n X.A) (hb : Binds X.K fd ps [])
    (h0 : PySem.W.findIn X.K (.ref C) (PySem.dunderR op.info.2) = some rc) (hp : rc = none ∨ ∃ g : Addr, rc = some (.ref g))
    (h1 : PySem.W.findIn X.K (.type "int") (PySem.dunder op.info.2) = some fo) (h2 : PySem.W.findIn X.K (.type "int") (PySem.dunderR op.info.2) = some ro) (hsub : PySem.W.subIn X.K (.type "int") (.ref C) = some false) : OpR X (binaryOp op) (rOwI C sp) := by
  intro pins s σ H x y v u Q I rx ry h
  obtain ⟨a, dx, fs, j, rfl, rfl, ha, q⟩ := h
  cases (show v = Value.ref a from rx)
  obtain ⟨t, rfl⟩ := id ry
  obtain ⟨mA, J, _⟩ := ins_get I.hok ha
  obtain ⟨od, J, _⟩ := J.look
  obtain ⟨m, hF⟩ := I.fr
  refine PySem.W.ksp_binT (op := op) hF I.ok.mod.kin J rfl hc o.at_ o.fn h0 hp h1 h2 hsub ?_
  refine wpAny_mono (run_fn (us := [.ref a, .int j t]) (vs := [.ref a, .int j]) (dvs := []) F hr hb .nil pass0 I (.cons rfl (.cons ry .nil)) q) (fun w s' z => ?_) fun _ _ x => x
  obtain ⟨z', H', I', rz, qz⟩ := z
  exact SlX.cmpback rz ⟨z', H', I', rz, qz⟩
theorem op_owN (o : OpF X C "__neg__" f) (F : FnOk X.prog X.w X.K X.mg X.base CX0 n f fd ps sp) (hr : Room n X.A) (hb : Binds X.K fd ps []) : UnR X (unaryOp .USub) (rOwN C sp) := by
  intro pins s σ H x v Q I rx h
  obtain ⟨a, dx, fs, rfl, ha, q⟩ := h
  cases (show v = Value.ref a from rx)
  obtain ⟨mA, J, _⟩ := ins_get I.hok ha
  obtain ⟨od, J, _⟩ := J.look
  obtain ⟨m, hF⟩ := I.fr
  refine PySem.W.ksp_neg hF I.ok.mod.kin J o.at_ o.fn ?_
  exact run_fn (us := [.ref a]) (vs := [.ref a]) (dvs := []) F hr hb .nil pass0 I (.cons rfl .nil) q
end
def uOwB (C : Addr) (ms : List Md) (t : TF) (ua ub : UE) : UE := u2 ua ub fun L a b QD => (∃ fs, a.get L = some (.ins C fs)) ∧ (∃ fs, b.get L = some (.ins C fs)) ∧ ∃ ds, argsOf L ms [a, b] = some ds ∧ t noX ds fun r => QD L (rA r)
def uOwI (C : Addr) (ms : List Md) (t : TF) (ua ub : UE) : UE := u2 ua ub fun L a b QD => (∃ fs, a.get L = some (.ins C fs)) ∧ (∃ j, b.get L = some (.int j)) ∧ ∃ ds, argsOf L ms [a, b] = some ds ∧ t noX ds fun r => QD L (rA r)
def uOwN (C : Addr) (ms : List Md) (t : TF) (ua : UE) : UE := fun XQ L QD => ua XQ L fun L a => (∃ fs, a.get L = some (.ins C fs)) ∧ ∃ ds, argsOf L ms [a] = some ds ∧ t noX ds fun r => QD L (rA r)
section
variable {X : Cx} {E : XK} {a b : Expr} {ua ub : UE} {pos : Pos} {C : Addr} {ms : List Md} {t : TF} {op : Operator}
theorem dx_owB (ho : OpR X (binaryOp op) (rOwB C (SpD X.K ms t))) (ha : DO X E a ua) (hb : DO X E b ub) : DX X E (.BinOp a op b pos) (uOwB C ms t ua ub) :=
  dx_op2 (pe_op ho) ha hb fun F lk G L σ H x y a b QD Q M r1 r2 h po => by
    obtain ⟨⟨fs, e1⟩, ⟨gs, e2⟩, ds, e3, q⟩ := h
    obtain ⟨p, dx, fs', rfl, hp, _⟩ := ins_of M r1 e1
    obtain ⟨p', dx', gs', rfl, hp', _⟩ := ins_of M r2 e2
    exact ⟨p, dx, fs', p', dx', gs', rfl, rfl, hp, hp', call_back M (M.args (.cons r1 (.cons r2 .nil)) e3) q fun v H' G' r s M' hr q => po v H' G' L (rA r) s M' hr q⟩
theorem dx_owI (ho : OpR X (binaryOp op) (rOwI C (SpD X.K ms t))) (ha : DO X E a ua) (hb : DO X E b ub) : DX X E (.BinOp a op b pos) (uOwI C ms t ua ub) :=
  dx_op2 (pe_op ho) ha hb fun F lk G L σ H x y a b QD Q M r1 r2 h po => by
    obtain ⟨⟨fs, e1⟩, ⟨j, e2⟩, ds, e3, q⟩ := h
    obtain ⟨p, dx, fs', rfl, hp, _⟩ := ins_of M r1 e1
    have hj := int_of (M.rep r2 e2) rfl
    exact ⟨p, dx, fs', j, rfl, hj, hp, call_back M (M.args (.cons r1 (.cons r2 .nil)) e3) q fun v H' G' r s M' hr q => po v H' G' L (rA r) s M' hr q⟩
theorem dx_owN (ho : UnR X (unaryOp .USub) (rOwN C (SpD X.K ms t))) (ha : DO X E a ua) : DX X E (.UnaryOp .USub a pos) (uOwN C ms t ua) := by
  obtain ⟨ta, pa, oa⟩ := ha.ex
  refine ⟨_, pe_un ho pa, fun F lk G L σ H Q QD XQ M xl hu po => ?_⟩
  refine oa F lk G L σ H _ _ XQ M xl hu fun x H1 G1 L1 aa s1 M1 r1 n1 q1 => ?_
  obtain ⟨⟨fs, e1⟩, ds, e3, q⟩ := q1
  obtain ⟨p, dx, fs', rfl, hp, _⟩ := ins_of M1 r1 e1
  exact ⟨p, dx, fs', rfl, hp, call_back M1 (M1.args (.cons r1 .nil) e3) q fun v H' G' r s M' hr q => po v H' G' L1 (rA r) (s1.trans s) M' hr q⟩
end
end QD

set_option Elab.async false
set_option linter.all false
set_option maxRecDepth 100000
set_option maxHeartbeats 4000000
namespace QD
open PySem PySem.Spec L2 PyProof.Rows
/-! what is known of a def, a method, a class, a property: one bundle each -/
theorem FunD.u {K : PySem.W.Frag} {x qual : Str} {st : Stmt} {dvs : List V} {kws : List (Str × V)} {f : Addr} {fd : FuncData} (F : FunD K x qual (defArgs st) (defBody st) (defScope st) dvs kws f fd) : FunU K qual st f fd :=
  ⟨fun S len h => F.ok S len fun cdv A outer s H vs Q E hr q => let ⟨t, p, z⟩ := h cdv A outer s H vs Q E hr q; ⟨t, p.nox, z⟩⟩
section
variable (P : Program) (w : World) (K : PySem.W.Frag) (mg : Str → Option Value) (base : Heap)
/-- the def x -/
structure Cal (k : Nat) (x : Str) (ps : List Str) (sp : Sp) : Prop where
  ex : ∃ fa fd, FnOk P w K mg base CX0 k fa fd ps sp ∧ mg x = some (.ref fa) ∧ PySem.W.keepIn K (.ref fa) = true ∧ Binds K fd ps []
/-- the method m of C -/
structure Mth (k : Nat) (C : Addr) (m : Str) (ps : List Str) (sp : Sp) : Prop where
  ex : ∃ fa fd, FnOk P w K mg base CX0 k fa fd ps sp ∧ Meth K C m fa ∧ Binds K fd ps []
/-- the class x at C: dvs fill up -/
structure Mak (k : Nat) (C : Addr) (x : Str) (ps : List Str) (sp : Sp) (dvs : List V) : Prop where
  ex : ∃ fa fd ds, FnOk P w K mg base CX0 k fa fd ps sp ∧ Mk K C fa ∧ mg x = some (.ref C) ∧ Binds K fd ps ds ∧ Vals dvs ds
structure Prp (k : Nat) (C : Addr) (m : Str) (ps : List Str) (sp : Sp) : Prop where
  ex : ∃ p fa fd, FnOk P w K mg base CX0 k fa fd ps sp ∧ PropOf K C m p fa ∧ Binds K fd ps []
end
theorem args0 {K : PySem.W.Frag} : ∀ G B, Args K G B [] [] [] := fun _ _ => .nil
section
variable {X : Cx} {E : XK} {x m : Str} {k : Nat} {e o : Expr} {es : List Expr} {ps : List Str} {C : Addr} {ms ms' ms1 : List Md} {w : UA} {u : UE} {pos p apos : Pos} {dvs : List V} {dds : List D}
theorem dx_f {t : TF} (c : Cal X.prog X.w X.K X.mg X.base k x ps (SpD X.K ms t)) (hr : Room k X.A) (ha : DA X E (e :: es) w) (hg : Gl X x := by rfl) (hdb : (x == ("__debug__" : Str)) = false := by decide)
    (he : starEach (e :: es) X.env = (false, eval e X.env) :: starEach es X.env := by rfl) (hpl : (backTo pos (starEach es X.env)).any (·.1) = false := by rfl) : DX X E (.Call (.Name x p) (e :: es) [] pos) (uCall ms t [] w) := by
  obtain ⟨fa, fd, F, hm, hk, hb⟩ := c.ex
  exact dx_call (ms' := []) (fun pa => pe_call F hr hg hm hk hb .nil pass0 pa hdb he hpl) ha args0 (List.append_nil _).symm
theorem dx_fO {t : TFO} (i : Nat) (c : Cal X.prog X.w X.K X.mg X.base k x ps (SpO X.K ms t)) (hr : Room k X.A) (ha : DA X E (e :: es) w) (hg : Gl X x := by rfl) (hdb : (x == ("__debug__" : Str)) = false := by decide)
    (he : starEach (e :: es) X.env = (false, eval e X.env) :: starEach es X.env := by rfl) (hpl : (backTo pos (starEach es X.env)).any (·.1) = false := by rfl) : DX X E (.Call (.Name x p) (e :: es) [] pos) (uCallO i ms t [] w) := by
  obtain ⟨fa, fd, F, hm, hk, hb⟩ := c.ex
  exact dx_callO (ms' := []) i (fun pa => pe_call F hr hg hm hk hb .nil pass0 pa hdb he hpl) ha args0 (List.append_nil _).symm
theorem dx_C {t : TFO} (c : Mak X.prog X.w X.K X.mg X.base k C x ps (SpO X.K ms t) dvs) (hr : Room (k + 1) X.A) (ha : DA X E (e :: es) w) (hd : ∀ G B, Args X.K G B ms' dvs dds) (hg : Gl X x := by rfl) (hms : ms = ms1 ++ ms' := by rfl) (hdb : (x == ("__debug__" : Str)) = false := by decide)
    (he : starEach (e :: es) X.env = (false, eval e X.env) :: starEach es X.env := by rfl) (hpl : (backTo pos (starEach es X.env)).any (·.1) = false := by rfl) : DX X E (.Call (.Name x p) (e :: es) [] pos) (uMake C ms1 t dds w) := by
  obtain ⟨fa, fd, ds, F, M, hm, hb, hv⟩ := c.ex
  exact dx_make (fun pa => pe_make M F hr hg hm hb hv pass0 pa hdb he hpl) ha hd hms
theorem dx_M {t : TF} {pl : Sem Bool} (c : Mth X.prog X.w X.K X.mg X.base k C m ps (SpD X.K ms t)) (cl : Cls X.K C) (hr : Room k X.A) (ho : DO X E o u) (ha : DA X E (e :: es) w)
    (hst : starEach (e :: es) X.env = (false, eval e X.env) :: starEach es X.env := by rfl) (hpl : (backTo pos (starEach es X.env)).any (·.1) = false := by rfl)
    (ht : eval (.Call (.Attribute o m apos) (e :: es) [] pos) X.env = (do
      let ov ← eval o X.env
      standAt apos.atName
      let (f, first) ← holding [ov] (getMethod ov m pl)
      callWith pos f first (backTo pos (starEach (e :: es) X.env)) (backToKw pos (keywordEach [] X.env))) := by rfl) : DX X E (.Call (.Attribute o m apos) (e :: es) [] pos) (uMeth C m ms t [] u w) := by
  obtain ⟨fa, fd, F, hm, hb⟩ := c.ex
  exact dx_meth (ms' := []) (fun po pa => pe_meth (pl := pl) po cl hm F hr hb .nil pass0 pa hst hpl ht) ho ha args0 (List.append_nil _).symm
theorem dx_meth0 {t : TF} {e' : Expr} (pe : ∀ {to}, PE X o to → PE X e' (tMeth C m (SpD X.K ms t) [] E0 to tNil)) (ho : DO X E o u) : DX X E e' (uMeth C m ms t [] u uNil) := by
  obtain ⟨to, p0, ok0⟩ := ho.ex
  refine ⟨_, pe p0, fun F lk G L σ H Q QD XQ M xl hu po => ?_⟩
  refine ok0 F lk G L σ H _ _ XQ M xl hu fun v H1 G1 L1 a s1 M1 r1 n1 q1 => ?_
  obtain ⟨⟨gs, eg, el⟩, ds, e1, q⟩ := q1
  obtain ⟨p', dx, fs, rfl, hp, rf⟩ := ins_of M1 r1 eg
  refine ⟨p', dx, fs, rfl, hp, rf.lookup.2 el, ?_⟩
  have a1 := M1.args (.cons r1 .nil) e1
  rw [List.append_nil] at q
  exact call_back M1 a1 q fun v H' G' r s M' hr q => po v H' G' L1 (rA r) (s1.trans s) M' hr q
theorem dx_M0 {t : TF} {pl : Sem Bool} (c : Mth X.prog X.w X.K X.mg X.base k C m ps (SpD X.K ms t)) (cl : Cls X.K C) (hr : Room k X.A) (ho : DO X E o u)
    (ht : eval (.Call (.Attribute o m apos) [] [] pos) X.env = (do
      let ov ← eval o X.env
      standAt apos.atName
      let (f, first) ← holding [ov] (getMethod ov m pl)
      callWith pos f first (backTo pos (starEach [] X.env)) (backToKw pos (keywordEach [] X.env))) := by rfl) : DX X E (.Call (.Attribute o m apos) [] [] pos) (uMeth C m ms t [] u uNil) := by
  obtain ⟨fa, fd, F, hm, hb⟩ := c.ex
  exact dx_meth0 (fun po => pe_meth0 (pl := pl) po cl hm F hr hb .nil pass0 ht) ho
theorem dx_P {t : TF} (c : Prp X.prog X.w X.K X.mg X.base k C m ps (SpD X.K ms t)) (cl : Cls X.K C) (hr : Room (k + 1) X.A) (ho : DO X E o u) (hab : attributeBase o m X.env (eval o X.env) = eval o X.env := by rfl) : DX X E (.Attribute o m pos) (uProp C ms t [] u) := by
  obtain ⟨pr, fa, fd, F, hp, hb⟩ := c.ex
  exact dx_prop (ms' := []) (fun po => pe_prop po cl hp F hr hb .nil pass0 hab) ho args0 (List.append_nil _).symm
/-! the top's constants -/
theorem do_gstr {z : Str} (hm : ∃ t, X.mg x = some (.str z t)) (hg : Gl X x := by rfl) (hd : (x == ("__debug__" : Str)) = false := by decide) : DO X E (.Name x pos) (uC (.str z)) := by
  obtain ⟨t, hm⟩ := hm
  exact do_c (pe_glob (v := .str z) hg hm ⟨t, rfl⟩ hd) fun _ => .str _
theorem do_gint {z : Int} (hm : ∃ t, X.mg x = some (.int z t)) (hg : Gl X x := by rfl) (hd : (x == ("__debug__" : Str)) = false := by decide) : DO X E (.Name x pos) (uC (.int z)) := by
  obtain ⟨t, hm⟩ := hm
  exact do_c (pe_glob (v := .int z) hg hm ⟨t, rfl⟩ hd) fun _ => .int _
theorem do_gtup {ds : List D} (hm : ∃ a, X.mg x = some (.ref a) ∧ ∀ G, Rep X.K G (.ref a) (.tup ds)) (hg : Gl X x := by rfl) (hd : (x == ("__debug__" : Str)) = false := by decide) : DO X E (.Name x pos) (uC (.tup ds)) := by
  obtain ⟨a, hm, r⟩ := hm
  exact do_c (pe_glob (v := .ref a) hg hm rfl hd) r
/-! name = [..], name = {..} on one line -/
end
theorem ps_setDc {X : Cx} {i : Nat} {y : Str} {py : Pos} {kx vx tg iter : Expr} {ifs : List Expr} {scope : Scope} {own : List (Str × Nat)} {pos spos : Pos} {wi : TI} {g : TG} {tt : TT} {tk tv : TE} (hc : X.calm = true) (hN : X.N.Nodup) (hy : X.N[i]? = some y) (hyl : X.env.scope.names.lookup y = some .local)
    (hsw : swapsWith (.DictComp kx vx [⟨tg, iter, ifs, 0⟩] scope pos) (some (.Name y py)) spos.line X.env = pure true) (hi : PI X tg iter wi) (ok : BlkOk X.N X.env.scope scope own)
    (hg : ∀ s H C cl fp, PG (blkOf X scope s H C cl fp) tg g) (ht : ∀ s H C cl fp, PTs (blkOf X scope s H C cl fp) ifs tt) (hk : ∀ s H C cl fp, PE (blkOf X scope s H C cl fp) kx tk) (he : ∀ s H C cl fp, PE (blkOf X scope s H C cl fp) vx tv) (hs : ∀ x, foldedSetIterable iter X.env x = pure x := by intro _; rfl) :
    PS X (.Assign [.Name y py] (.DictComp kx vx [⟨tg, iter, ifs, 0⟩] scope pos) spos) (tAsg (tDc wi g tt tk tv (own.map (·.2))) (gName i)) := by
  refine ⟨fun pins s σ H D I h => ?_⟩
  rw [exec_Assign_Name_used _ _ _ _ hsw]
  refine wpAny_bind (wpAny_standAt (wpAny_bind ?_))
  show wpAny _ X.A (do let _ ← comprehension (.DictComp kx vx [⟨tg, iter, ifs, 0⟩] scope pos) scope X.env (firstIterPos [⟨tg, iter, ifs, 0⟩] pos) newDict false (eval iter X.env) (some (assign (.Name y py) X.env))) _ _ s
  have h2 : tDc wi g tt tk tv (own.map (·.2)) σ H (fun x H1 => gName i x σ H1 D.nx) := h
  refine wpAny_bind (thn (dc_core (Qf := fun _ s' => SP X pins D .next s') hc hN I hi ok hg ht hk he hs h2 fun L C s' m H' I' q hn f => ?_) fun _ s' hq => wpAny_pure (wpAny_pure hq))
  show wpAny _ _ (assign (.Name y py) X.env (.ref L)) _ _ _
  refine wpAny_assign_Name (store_ok2 (v := V.ref L) I' hN hy (.inl hyl) rfl (fun s2 I2 hx => ?_) (.inr hyl))
  obtain ⟨a, sb, ha⟩ := hx
  obtain ⟨f0, f1, f2, f3, f4, f5⟩ := f
  have ne : C ≠ a := by
    rcases ha with z | z
    · rw [z]; exact f1
    · exact fun e => f4 y a z e.symm
  refine ⟨m, hn.sameBut sb ne, fun h3 sb3 => ?_⟩
  exact ⟨_, H', I2.turned (t' := s2.toks) (fun b o hb e => (sb3.2 b hb).trans e) f0 f1 f3 f4 f5, q⟩
theorem sw_trueD {kx vx : Expr} {gs : List Comprehension} {scope : Scope} {pos py : Pos} {y : Str} {l : Nat} {env : Env} (hk : env.scope.kind = .function) (hy : env.scope.names.lookup y = some .local) (hl : (py.line == pos.line) = true)
    (ha : (scope.names.any fun (n, k) => n == y && (k == .local || k == .cell)) = false) : swapsWith (.DictComp kx vx gs scope pos) (some (.Name y py)) l env = pure true := by
  have ky : env.kindOf y = some .local := hy
  have hb : env.blockKind = .function := by unfold Env.blockKind; rw [hk]; rfl
  unfold swapsWith
  simp only [hb, ky, ha, Expr.pos, hl]
  rfl
end QD

set_option Elab.async false
set_option linter.all false
set_option maxRecDepth 100000
set_option maxHeartbeats 4000000
namespace QD
open PySem PySem.Spec L2 PyProof.Rows
/-! an own container is lent for the time of an expression -/
def FB.lend (F : FB) (G : Hp) (p : Addr) (o : HO) : FB := ⟨upd F.H0 p o, G, upd F.B p o, F.pa, F.Kp⟩
/-- the borrowed slots (but i) are those of before -/
def bKeep (i : Nat) (L L' : Env') : Prop := ∀ j d, j ≠ i → L'[j]? = some (some (.b d)) → L[j]? = some (some (.b d))
def gf : A → Bool
  | .g _ => true
  | .f _ => true
  | _ => false
section
variable {K : PySem.W.Frag} {F : FB} {lk : Lk} {G G2 : Hp} {L L2 : Env'} {σ : St} {H H2 : Hp} {p : Addr} {o : HO} {i : Nat} {d : D}
theorem Mem.lend (M : Mem K F lk G L σ H) (h : L[i]? = some (some (.o d))) (hv : σ[i]? = some (some (.ref p))) (hp : H p = some o) (hr : Rep K (upd F.B p o) (.ref p) d) : Mem K (F.lend G p o) lk G (L.set i (some (.b d))) σ H := by
  obtain ⟨m1, m2, m3⟩ := M.own i _ d p h rfl hv
  have m4 := M.ownO i d p h hv
  have il : i < L.length := (List.getElem?_eq_some_iff.mp h).1
  have other : ∀ {j : Nat} {c : C} {e : D}, (L.set i (some (C.b d)))[j]? = some (some c) → c.own = some e → j ≠ i ∧ L[j]? = some (some c) := fun {j c e} q he => by
    rcases set_back q with ⟨rfl, rfl⟩ | z
    · cases he
    · exact z
  have ne : ∀ {j : Nat} {c : C} {e : D} {a : Addr}, j ≠ i → L[j]? = some (some c) → c.own = some e → σ[j]? = some (some (.ref a)) → a ≠ p := fun {j c e a} hj hc he ha z => hj (M.inj j i c _ e d p hc he h rfl (by rw [← z]; exact ha) hv)
  refine ⟨.refl _, M.gH, fun b u e => ?_, M.kH, fun a e => ?_, fun a h1 h2 => absurd h1 h2, fun a ob e => ?_, fun j c q => ?_, fun j c e a q1 q2 q3 => ?_, fun j e a q1 q2 => ?_, fun j k c c' e e' a q1 q2 q3 q4 q5 q6 => ?_, fun q hq => ?_, by rw [List.length_set]; exact M.len, fun a u e => ?_⟩
  · by_cases hb : b = p
    · subst hb
      unfold lkd at e
      rw [m3] at e
      have e : upd F.B b o b = some u := e
      rw [upd_same] at e; cases e
      exact hp
    · refine M.bH b u ?_
      unfold lkd at e ⊢
      have e : (match lk b with | some ob => (upd F.B p o b).map (HO.frz ob) | none => upd F.B p o b) = some u := e
      rw [upd_ne hb] at e
      exact e
  · show upd F.H0 p o a = none
    rw [upd_ne (fun z => by rw [z, hp] at e; cases e)]
    exact M.dom a e
  · obtain ⟨kvs, e1, e2, e3⟩ := M.lkD a ob e
    refine ⟨kvs, e1, e2, fun u q => ?_⟩
    have q : upd F.B p o a = some u := q
    rw [upd_ne (fun z => by rw [z, m3] at e; cases e)] at q
    exact e3 u q
  · rcases set_back q with ⟨rfl, rfl⟩ | ⟨hj, q⟩
    · exact ⟨_, hv, hr⟩
    · obtain ⟨v, e, r⟩ := M.sl j c q
      refine ⟨v, e, ?_⟩
      cases c with
      | g x => exact r
      | b x => exact Rep.tr (Tr.same (same_upd m2.1)) (show Rep K F.B v x from r)
      | o x => exact r
      | p x => exact r
  · obtain ⟨hj, q⟩ := other q1 q2
    obtain ⟨z1, z2, z3⟩ := M.own j c e a q q2 q3
    refine ⟨z1, ⟨?_, z2.2⟩, z3⟩
    show upd F.B p o a = none
    rw [upd_ne (ne hj q q2 q3)]
    exact z2.1
  · obtain ⟨hj, q⟩ := other q1 rfl
    show upd F.H0 p o a = none
    rw [upd_ne (ne hj q rfl q2)]
    exact M.ownO j e a q q2
  · obtain ⟨_, z1⟩ := other q1 q2
    obtain ⟨_, z2⟩ := other q3 q4
    exact M.inj j k c c' e e' a z1 q2 z2 q4 q5 q6
  · obtain ⟨z1, x, z2⟩ := M.par q hq
    refine ⟨z1, x, ?_⟩
    rw [List.getElem?_set_ne (fun z => by rw [← z, h] at z2; cases z2)]
    exact z2
  · obtain ⟨z1, z2⟩ := M.kn a u e
    refine ⟨z1, ?_⟩
    show upd F.B p o a = none
    have e : F.Kp a = some u := e
    rw [upd_ne (fun z => by rw [z, m2.2] at e; cases e)]
    exact z2
theorem Mem.unlend (M0 : Mem K F lk G L σ H) (h : L[i]? = some (some (.o d))) (hv : σ[i]? = some (some (.ref p))) (hp : H p = some o) (M : Mem K (F.lend G p o) lk G2 L2 σ H2) (h2 : L2[i]? = some (some (.b d))) (kp : bKeep i L L2) :
    Mem K F lk G2 (L2.set i (some (.o d))) σ H2 ∧ ∀ a, (F.lend G p o).nk a → a ≠ p ∧ F.nk a := by
  obtain ⟨m1, m2, m3⟩ := M0.own i _ d p h rfl hv
  have m4 := M0.ownO i d p h hv
  have ow : Own K G H p d := M0.ownS (show ownAt L i = some d by unfold ownAt; rw [h]; rfl) hv
  have hnk : ∀ a, (F.lend G p o).nk a → a ≠ p ∧ F.nk a := fun a z => by
    have z1 : upd F.B p o a = none := z.1
    have ne : a ≠ p := fun e => by rw [e, upd_same] at z1; cases z1
    rw [upd_ne ne] at z1
    exact ⟨ne, z1, z.2⟩
  have g2p : G2 p = none := by
    cases q : G2 p with
    | none => rfl
    | some u =>
      have z : upd F.H0 p o p = none := M.new p m1 (by rw [q]; simp)
      rw [upd_same] at z; cases z
  have h2p : H2 p = some o := M.bH p o (by unfold lkd; rw [m3]; exact upd_same)
  have fromH0 : ∀ a, upd F.H0 p o a = none → F.H0 a = none := fun a z => by
    by_cases e : a = p
    · rw [e, upd_same] at z; cases z
    · rwa [upd_ne e] at z
  have old : ∀ {j : Nat} {c : C}, (L2.set i (some (C.o d)))[j]? = some (some c) → (j = i ∧ c = .o d) ∨ (j ≠ i ∧ L2[j]? = some (some c)) := fun q => set_back q
  refine ⟨⟨M0.g0.trans M.g0, M.gH, fun b u e => ?_, M.kH, fun a e => fromH0 a (M.dom a e), fun a q1 q2 => ?_, fun a ob e => ?_, fun j c q => ?_, fun j c e a q1 q2 q3 => ?_, fun j e a q1 q2 => ?_, fun j k c c' e e' a q1 q2 q3 q4 q5 q6 => ?_, fun q hq => ?_, by rw [List.length_set]; exact M.len, fun a u e => ⟨(M.kn a u e).1, (M0.kn a u e).2⟩⟩, hnk⟩
  · have hb : b ≠ p := fun z => by
      rw [z] at e
      unfold lkd at e
      rw [m3] at e
      have e : F.B p = some u := e
      rw [m2.1] at e; cases e
    refine M.bH b u ?_
    unfold lkd at e ⊢
    show (match lk b with | some ob => (upd F.B p o b).map (HO.frz ob) | none => upd F.B p o b) = some u
    rw [upd_ne hb]
    exact e
  · by_cases q : G a = none
    · exact fromH0 a (M.new a q q2)
    · exact M0.new a q1 q
  · obtain ⟨kvs, e1, e2, e3⟩ := M.lkD a ob e
    refine ⟨kvs, e1, e2, fun u q => e3 u ?_⟩
    show upd F.B p o a = some u
    rw [upd_ne (fun z => by rw [z, m3] at e; cases e)]
    exact q
  · rcases old q with ⟨rfl, rfl⟩ | ⟨hj, q⟩
    · exact ⟨_, hv, p, rfl, ow.mono (Tr.same M.g0) (h2p.trans hp.symm)⟩
    · obtain ⟨v, e, r⟩ := M.sl j c q
      refine ⟨v, e, ?_⟩
      cases c with
      | g x => exact r
      | b x =>
        obtain ⟨v', e', r'⟩ := M0.sl j _ (kp j x hj q)
        rw [e] at e'; cases e'
        exact r'
      | o x => exact r
      | p x => exact r
  · rcases old q1 with ⟨rfl, rfl⟩ | ⟨hj, q⟩
    · rw [hv] at q3; cases q3
      exact ⟨g2p, m2, m3⟩
    · obtain ⟨z1, z2, z3⟩ := M.own j c e a q q2 q3
      exact ⟨z1, (hnk a z2).2, z3⟩
  · rcases old q1 with ⟨rfl, z⟩ | ⟨hj, q⟩
    · rw [hv] at q2; cases q2
      exact m4
    · exact fromH0 a (M.ownO j e a q q2)
  · rcases old q1 with ⟨rfl, rfl⟩ | ⟨hj, z1⟩
    · rcases old q3 with ⟨rfl, rfl⟩ | ⟨hk, z2⟩
      · rfl
      · rw [hv] at q5; cases q5
        exact absurd rfl (hnk p (M.own k c' e' p z2 q4 q6).2.1).1
    · rcases old q3 with ⟨rfl, rfl⟩ | ⟨hk, z2⟩
      · rw [hv] at q6; cases q6
        exact absurd rfl (hnk p (M.own j c e p z1 q2 q5).2.1).1
      · exact M.inj j k c c' e e' a z1 q2 z2 q4 q5 q6
  · obtain ⟨z1, x, z2⟩ := M.par q hq
    refine ⟨z1, x, ?_⟩
    rw [List.getElem?_set_ne (fun z => by rw [← z, h2] at z2; cases z2)]
    exact z2
end
def uLend (i : Nat) (u : UE) : UE := fun _ L QD => ∃ d, L[i]? = some (some (.o d)) ∧ d.shallow = true ∧ u noX (L.set i (some (.b d))) fun L' a => L'[i]? = some (some (.b d)) ∧ bKeep i L L' ∧ gf a = true ∧ QD (L'.set i (some (.o d))) a
theorem Own.lent {K : PySem.W.Frag} {G H B : Hp} {p : Addr} {d : D} {o : HO} (ow : Own K G H p d) (hp : H p = some o) (sh : d.shallow = true) : Rep K (upd B p o) (.ref p) d := by
  cases d with
  | lst ds =>
    obtain ⟨vs, h, r⟩ := ow
    rw [hp] at h; cases h
    exact .lst (.of upd_same) (r.flat sh)
  | dic ds =>
    obtain ⟨vs, h, r⟩ := ow
    rw [hp] at h; cases h
    exact .dic (.inl upd_same) (r.flat sh)
  | ins C gs =>
    obtain ⟨dx, fs, h, r⟩ := ow
    rw [hp] at h; cases h
    exact .ins upd_same (r.flat sh)
  | _ => exact ow.elim
section
variable {X : Cx} {E : XK} {e e' : Expr} {f : UP} {st : Stmt}
theorem dx_lend (i : Nat) {u : UE} (h : DX X E e u) : DX X E e (uLend i u) := by
  obtain ⟨t, pe, ok⟩ := h.ex
  refine ⟨t, pe, fun F lk G L σ H Q QD XQ M xl hu po => ?_⟩
  obtain ⟨d, hi, sh, hu⟩ := hu
  obtain ⟨p, hv, ow⟩ := M.ownV (show ownAt L i = some d by unfold ownAt; rw [hi]; rfl)
  obtain ⟨o, hp⟩ := ow.some_of
  refine ok (F.lend G p o) lk G _ σ H Q _ noX (M.lend hi hv hp (ow.lent hp sh)) ⟨.inr fun _ z => z, fun _ _ _ _ _ _ _ _ _ _ _ _ z => z.elim⟩ hu fun v H' G' L' a s M' r q => ?_
  obtain ⟨h2, kp, hg, q⟩ := q
  obtain ⟨M2, hnk⟩ := M.unlend hi hv hp M' h2 kp
  refine po v H' G' _ a s M2 ?_ q
  cases a with
  | g x => exact r
  | f x =>
    obtain ⟨p', rfl, ow', z1, z2, z3, z4, z5⟩ := r
    obtain ⟨ne, z2'⟩ := hnk p' z2
    have z4' : upd F.H0 p o p' = none := z4
    rw [upd_ne ne] at z4'
    refine ⟨p', rfl, ow', z1, z2', z3, z4', fun j c x' q1 q2 q3 => ?_⟩
    rcases set_back q1 with ⟨rfl, rfl⟩ | ⟨hj, q1⟩
    · rw [hv] at q3; cases q3
      exact ne rfl
    · exact z5 j c x' q1 q2 q3
  | b x => cases hg
  | sl j => cases hg
/-! a dict at a path is walked -/
theorem dx_lockP {u : UE} (h : DP X e f) (hz : ∀ {t}, DPt X e f t → DXz X E e' (Zf X.K f t) u) (hu : ∀ XQ L QD, u XQ L QD → ∃ a kds, dictAt f L a kds) : DX X E e' (fun _ L QD => u noX L QD) := by
  obtain ⟨t, q⟩ := h.ext
  exact dx_lock q (hz q) hu
theorem ds_lockP {u : US} (h : DP X e f) (hz : ∀ {t}, DPt X e f t → DSz X E st (Zf X.K f t) u) (hu : ∀ XQ L DD, u XQ DD L → ∃ a kds, dictAt f L a kds) : DS X E st (fun _ DD L => u noX DD L) := by
  obtain ⟨t, q⟩ := h.ext
  exact ds_lock q (hz q) hu
def uNX (u : UE) : UE := fun _ L QD => u noX L QD
def uNXS (u : US) : US := fun _ DD L => u noX DD L
end
end QD

set_option Elab.async false
set_option linter.all false
set_option maxRecDepth 100000
set_option maxHeartbeats 4000000
namespace QD
open PySem PySem.Spec L2 PyProof.Rows
/-- an item of a display: it is shared from then on -/
def uGO (u : UE) : UE := fun XQ L QD => uG u XQ L fun L' d => QD L' (.g d)
/-- a, b = x, y: two slots -/
def uPar (i j : Nat) (ua ub : UE) : US := fun XQ DD L => ua XQ L fun L1 a => match a with
  | .g d => ub XQ L1 fun L2 b => notP L2 i = true ∧ notP (L2.set i (some (.g d))) j = true ∧ setA (L2.set i (some (.g d))) j DD.nx b ∧ ∀ s, b ≠ .sl s
  | .f d => ub XQ L1 fun L2 b => notP L2 i = true ∧ notP (L2.set i (some (.o d))) j = true ∧ setA (L2.set i (some (.o d))) j DD.nx b ∧ ∀ s, b ≠ .sl s
  | _ => False
section
variable {K : PySem.W.Frag} {F : FB} {lk : Lk} {G G' : Hp} {L L' : Env'} {σ : St} {H H' : Hp} {v w : V} {i : Nat}
/-- the value of another expression, behind the storing of a first -/
theorem HR.after_set {a : A} {c : C} (hil : i < σ.length) (r : HR K F lk G L σ H w a) (ns : ∀ s, a ≠ .sl s) (nf : ∀ d p, a = .f d → w = .ref p → c.own ≠ none → v ≠ .ref p) : HR K F lk G (L.set i (some c)) (σ.set i (some v)) H w a := by
  cases a with
  | g d => exact r
  | b d => exact r
  | sl s => exact absurd rfl (ns s)
  | f d =>
    obtain ⟨p, rfl, ow, h1, h2, h3, h4, h5⟩ := r
    refine ⟨p, rfl, ow, h1, h2, h3, h4, fun j c' d' q1 q2 q3 => ?_⟩
    rcases set_back q1 with ⟨rfl, rfl⟩ | ⟨hj, q1⟩
    · rw [List.getElem?_set_self hil] at q3
      cases q3
      exact nf d p rfl rfl (by rw [q2]; simp) rfl
    · rw [List.getElem?_set_ne (Ne.symm hj)] at q3
      exact h5 j c' d' q1 q2 q3
end
section
variable {X : Cx} {E : XK} {a b e : Expr} {ua ub u : UE} {st : Stmt}
theorem do_gO (h : DX X E e u) : DO X E e (uGO u) := do_g h
theorem ds_par (i j : Nat) (ha : DX X E a ua) (hb : DX X E b ub) (ps : ∀ {ta tb}, PE X a ta → PE X b tb → PS X st (tPar i j (tCons ta (tCons tb tNil)))) : DS X E st (uPar i j ua ub) := by
  obtain ⟨ta, pa, oa⟩ := ha.ex
  obtain ⟨tb, pb, ob⟩ := hb.ex
  refine ⟨_, ps pa pb, fun F lk G L σ H Dn DD XQ M xl hu l => ?_⟩
  refine oa F lk G L σ H _ _ XQ M xl hu fun x H1 G1 L1 aa s1 M1 r1 q1 => ?_
  cases aa with
  | g d =>
    have q1 : ub XQ L1 fun L2 b => notP L2 i = true ∧ notP (L2.set i (some (.g d))) j = true ∧ setA (L2.set i (some (.g d))) j DD.nx b ∧ ∀ s, b ≠ .sl s := q1
    refine ob F lk G1 L1 σ H1 _ _ XQ M1 xl q1 fun y H2 G2 L2 bb s2 M2 r2 q2 => ?_
    obtain ⟨n1, n2, q2, ns⟩ := q2
    refine ⟨x, y, rfl, ?_⟩
    have M3 := M2.set (v := x) (c := .g d) n1 (Rep.tr (Tr.same s2) r1) (fun _ z => nomatch z) (fun _ _ z => nomatch z)
    by_cases hi : i < σ.length
    · have r3 := HR.after_set (c := .g d) (v := x) hi r2 ns (fun _ _ _ _ z => absurd rfl z)
      obtain ⟨L', M4, q⟩ := M3.setA n2 r3 q2
      exact l.nx G2 L' _ H2 (s1.trans s2) M4 q
    · have e1 : σ.set i (some x) = σ := List.set_eq_of_length_le (by omega)
      have e2 : L2.set i (some (C.g d)) = L2 := List.set_eq_of_length_le (by have := M2.len; omega)
      rw [e1] at M3 ⊢
      rw [e2] at M3 n2 q2
      obtain ⟨L', M4, q⟩ := M3.setA n2 r2 q2
      exact l.nx G2 L' _ H2 (s1.trans s2) M4 q
  | f d =>
    have q1 : ub XQ L1 fun L2 b => notP L2 i = true ∧ notP (L2.set i (some (.o d))) j = true ∧ setA (L2.set i (some (.o d))) j DD.nx b ∧ ∀ s, b ≠ .sl s := q1
    obtain ⟨p, rfl, ow, h1, h2, h3, h4, h5⟩ := r1
    obtain ⟨o, hp⟩ := ow.some_of
    have l0 : Lone F lk G1 L1 σ p := ⟨h1, h2, h3, h4, h5⟩
    have Mg := M1.guard hp l0
    refine ob (F.grd G1 p o) lk G1 L1 σ H1 _ _ XQ Mg (XLk.guard (o := o) M1 l0 xl) q1 fun y H2 G2 L2 bb s2 M2' r2' q2 => ?_
    obtain ⟨M2, hp2, l2⟩ := Mem.unguard M1 l0 M2'
    obtain ⟨n1, n2, q2, ns⟩ := q2
    refine ⟨.ref p, y, rfl, ?_⟩
    have ow2 : Own X.K G2 H2 p d := ow.mono (Tr.same s2) (hp2.trans hp.symm)
    have M3 := M2.set (v := .ref p) (c := .o d) n1 ⟨p, rfl, ow2⟩ (fun _ z => nomatch z) (fun d' a e1 e2 => by
      cases e2
      exact ⟨l2.g, l2.k, l2.l, l2.h, fun k c' d'' _ z1 z2 => l2.s k c' d'' z1 z2⟩)
    -- the second value is not p
    have r2 : HR X.K F lk G2 L2 σ H2 y bb ∧ ∀ d' p', bb = .f d' → y = .ref p' → p' ≠ p := by
      cases bb with
      | g x => exact ⟨r2', fun _ _ z => nomatch z⟩
      | b x => exact ⟨r2', fun _ _ z => nomatch z⟩
      | sl s => exact absurd rfl (ns s)
      | f x =>
        obtain ⟨p', rfl, w1, w2, w3, w4, w5, w6⟩ := r2'
        have ne : p' ≠ p := fun z => by
          have z1 : upd F.Kp p o p' = none := w3.2
          rw [z, upd_same] at z1; cases z1
        refine ⟨⟨p', rfl, w1, w2, ⟨w3.1, ?_⟩, w4, ?_, w6⟩, fun _ p'' _ e => by cases e; exact ne⟩
        · have z1 : upd F.Kp p o p' = none := w3.2
          rwa [upd_ne ne] at z1
        · have z1 : upd F.H0 p o p' = none := w5
          rwa [upd_ne ne] at z1
    by_cases hi : i < σ.length
    · have r3 := HR.after_set (c := .o d) (v := .ref p) hi r2.1 ns (fun d' p' e1 e2 _ z => by cases z; exact r2.2 d' p e1 e2 rfl)
      obtain ⟨L', M4, q⟩ := M3.setA n2 r3 q2
      exact l.nx G2 L' _ H2 (s1.trans s2) M4 q
    · have e1 : σ.set i (some (.ref p)) = σ := List.set_eq_of_length_le (by omega)
      have e2 : L2.set i (some (C.o d)) = L2 := List.set_eq_of_length_le (by have := M2.len; omega)
      rw [e1] at M3 ⊢
      rw [e2] at M3 n2 q2
      obtain ⟨L', M4, q⟩ := M3.setA n2 r2.1 q2
      exact l.nx G2 L' _ H2 (s1.trans s2) M4 q
  | b d => exact q1.elim
  | sl s => exact q1.elim
end
end QD

set_option Elab.async false
set_option linter.all false
set_option maxRecDepth 100000
set_option maxHeartbeats 4000000
namespace QD
open PySem PySem.Spec L2 PyProof.Rows
/-- list(d.items()) of a dict that may be locked -/
def tLI (te : TE) : TE := fun σ H Q => te σ H fun x H1 => ∃ (d : Addr) (kvs : List (Key × V)), x = .ref d ∧ Rd H1 d (.dK kvs) ∧
  ∀ (H' : Hp) (p : Addr) (ts : List Addr), Same H1 H' → H1 p = none → (∀ t ∈ ts, H1 t = none) → p ∉ ts → H' p = some (.lst (ts.map V.ref)) → Paired (fun (t : Addr) (q : Key × V) => H' t = some (.tup [kV q.1, q.2])) ts kvs → Q (.ref p) H'
theorem pe_LI {X : Cx} {e : Expr} {te : TE} {p apos cpos pos : Pos} (hc : X.calm = true) (he : PE X e te) (hg : Gl X "list") (hm : X.mg "list" = none) (hv : bootBuiltins "list" = some (.type "list")) (hb : attributeBase e "items" X.env (eval e X.env) = eval e X.env := by rfl) (hl : (apos.endLine == cpos.line) = true := by rfl)
    (hst : starEach [.Call (.Attribute e "items" apos) [] [] cpos] X.env = (false, eval (.Call (.Attribute e "items" apos) [] [] cpos) X.env) :: starEach [] X.env := by rfl) : PE X (.Call (.Name "list" p) [.Call (.Attribute e "items" apos) [] [] cpos] [] pos) (tLI te) := by
  constructor
  intro pins s σ H Q I hq
  refine wpAny_Call_Name_kw (ld_blt I hg hm hv (PyProof.Rows.callWith_type1 ?_ hst rfl))
  rw [hst]
  show wpAny _ _ (spliced ((false, eval (.Call (.Attribute e "items" apos) [] [] cpos) X.env) :: backTo pos (starEach ([] : List Expr) X.env))) _ _ s
  refine Calls.spliced_cons (wpAny_Call_method (T := "dict") (id := "dict.items") hb rfl hl F.plainAttrs_dict F.slot_dict_items F.type_dict_items (thn (he.run pins s σ H _ I hq) ?_))
  rintro u s1 ⟨x, H1, J1, rx, d, kvs, ex, hd, q⟩
  subst ex
  cases (show u = Value.ref d from rx)
  obtain ⟨hz, hs0, vs, kv, dd⟩ := dk_rd J1.hok hd
  obtain ⟨ep, hat⟩ := dd.dictAt
  have hlen : kvs.length = vs.length := Paired.length kv
  have J2 : Inv X pins σ H1 { s1 with heap := s1.heap.push { cls := .type "dict_items", data := .fields #[.ref d] } } := J1.kept (t' := s1.toks) fun b ob z => Heap.get?_push_of_some _ z
  refine ⟨dd.typeIs, dd.mapOf.noDict, ?_⟩
  show wpAny _ _ (callWith cpos (.builtin "dict.items") [.ref d] ([] : List (Bool × Sem Value)) []) _ X.xe s1
  refine method_meetsIn F.slot_dict_items F.entry_dict_items rfl (PySem.evalArgs_none ⟨rfl, dd.typeIs, F.args_dict_items_1 _, _, meets_dict_items (mixKind X.prog X.w) d hs0, ⟨vs, dd⟩, Calls.spliced_nil ?_⟩)
  refine PySem.W.kdx_call (knd := mixKind X.prog X.w) (kvs := vs) (ep := ep) (J1.ok.hd hc) ⟨_, Heap.get?_push_size _ rfl, rfl, rfl⟩ (hat.push _) (by omega) ?_
  intro h' tk acc c as hk hS hla hG hacc
  obtain ⟨H', k1, k2, k3, k4, k5, k6, J⟩ := LiI.items_laid (tk := tk) J2 hz kv hk hS hla hG hacc
  exact ⟨.ref _, H', J, rfl, q H' _ as k1 k2 k3 k4 k5 k6⟩
section
variable {K : PySem.W.Frag} {F : FB} {lk : Lk} {G : Hp} {L : Env'} {σ : St} {H H' : Hp}
/-- new things were laid: ts shared from then on -/
theorem Mem.lay (M : Mem K F lk G L σ H) (s : Same H H') (ts : List Addr) (hn : ∀ t ∈ ts, H t = none) : ∃ G', Same G G' ∧ Mem K F lk G' L σ H' ∧ (∀ t ∈ ts, G' t = H' t) ∧ ∀ p, p ∉ ts → G' p = G p := by
  have M1 := M.grow s
  have hG : ∀ t ∈ ts, G t = none := fun t h => M.gnone (hn t h)
  refine ⟨fun a => if a ∈ ts then H' a else G a, fun a o e => ?_, M1.wide (fun a o e => ?_) (fun a o e => ?_) fun a h1 h2 => ?_, fun t h => if_pos h, fun p h => if_neg h⟩
  · show (if a ∈ ts then H' a else G a) = some o
    rw [if_neg (fun z => by rw [hG a z] at e; cases e)]; exact e
  · show (if a ∈ ts then H' a else G a) = some o
    rw [if_neg (fun z => by rw [hG a z] at e; cases e)]; exact e
  · by_cases h : a ∈ ts
    · unfold lkd at e
      rw [M.lknone (hn a h)] at e
      have e : (if a ∈ ts then H' a else G a) = some o := e
      rw [if_pos h] at e; exact e
    · refine M1.gH a o ?_
      unfold lkd at e ⊢
      have e : (match lk a with | some ob => (if a ∈ ts then H' a else G a).map (HO.frz ob) | none => (if a ∈ ts then H' a else G a)) = some o := e
      rw [if_neg h] at e
      exact e
  · have h : a ∈ ts := by
      by_cases h : a ∈ ts
      · exact h
      · exfalso; apply h2; show (if a ∈ ts then H' a else G a) = none; rw [if_neg h]; exact h1
    exact ⟨M.dom a (hn a h), (M.bnone (hn a h)).2, M.lknone (hn a h), fun i c d' q1 q2 q3 => M.noaddr (hn a h) i c d' q1 q2 q3⟩
end
def litD : D → Option D
  | .dic kds => some (.lst (kds.map fun p => .tup [keyD p.1, p.2]))
  | _ => none
theorem pairs_repsL {K : PySem.W.Frag} {G G' H' : Hp} (s : Same G G') : ∀ {kvs : List (Key × V)} {kds : List (Key × D)}, RepK K G kvs kds → ∀ {ts : List Addr}, Paired (fun (t : Addr) (q : Key × V) => H' t = some (.tup [kV q.1, q.2])) ts kvs → (∀ t ∈ ts, G' t = H' t) → Reps K G' (ts.map V.ref) (kds.map fun p => .tup [keyD p.1, p.2])
  | _, _, .nil, ts, h, _ => by cases h; exact .nil
  | _, _, .cons (k := k) r rs, ts, h, hg => by
    cases h with
    | cons h t => exact .cons (.tup (.of ((hg _ (by simp)).trans h)) (.cons (keyD_rep k) (.cons (Rep.tr (Tr.same s) r) .nil))) (pairs_repsL s rs t fun x hx => hg x (by simp [hx]))
section
variable {X : Cx} {E : XK} {e : Expr} {ua : UE} {p pos apos cpos : Pos}
theorem dx_listItems (ha : DO X E e ua) (hg : Gl X "list") (hm : X.mg "list" = none) (hv : bootBuiltins "list" = some (.type "list")) (hc : X.calm = true := by rfl) (hb : attributeBase e "items" X.env (eval e X.env) = eval e X.env := by rfl) (hl : (apos.endLine == cpos.line) = true := by rfl)
    (hst : starEach [.Call (.Attribute e "items" apos) [] [] cpos] X.env = (false, eval (.Call (.Attribute e "items" apos) [] [] cpos) X.env) :: starEach [] X.env := by rfl) : DX X E (.Call (.Name "list" p) [.Call (.Attribute e "items" apos) [] [] cpos] [] pos) (uF1 litD ua) := by
  obtain ⟨t, pa, ok⟩ := ha.ex
  refine ⟨_, pe_LI hc pa hg hm hv hb hl hst, fun F lk G L σ H Q QD XQ M xl hu po => ?_⟩
  refine ok F lk G L σ H _ _ XQ M xl hu fun x H1 G1 L1 aa s1 M1 r1 n1 q1 => ?_
  obtain ⟨d1, d, e1, e2, q⟩ := q1
  cases d1 <;> first | (cases e2; done) | skip
  rename_i kds
  cases e2
  obtain ⟨a, kvs, rfl, rd, rk⟩ := M1.vwG r1 e1
  refine ⟨a, kvs, rfl, rd, fun H' c ts sH hc hts hct hl hp => ?_⟩
  obtain ⟨G2, s2, M2, g1, g2⟩ := M1.lay sH ts hts
  refine po (.ref c) H' G2 L1 (.f (.lst (kds.map fun p => .tup [keyD p.1, p.2]))) (s1.trans s2) M2 ⟨c, rfl, ⟨_, hl, pairs_repsL s2 rk hp g1⟩, ?_, M1.bnone hc, M1.lknone hc, M1.dom c hc, M1.noaddr hc⟩ q
  rw [g2 c hct]; exact M1.gnone hc
end
end QD

set_option Elab.async false
set_option linter.all false
set_option maxRecDepth 100000
set_option maxHeartbeats 4000000
namespace QD.SI
open PySem PySem.Spec PyProof.Rows L2
/-! sorted(d.items()): texts as keys, ints as values -/
def ltS (x y : Str) : Bool := decide (x.cps.toList < y.cps.toList)
def rk (l : List Str) (x : Str) : Int := ((l.countP fun z => ltS z x : Nat) : Int)
theorem countP_less {α : Type} {p q : α → Bool} : ∀ {l : List α} {x : α}, (∀ z, p z = true → q z = true) → x ∈ l → q x = true → p x = false → l.countP p < l.countP q
  | [], x, _, h, _, _ => by cases h
  | y :: l, x, hpq, h, hq, hp => by
    rcases List.mem_cons.mp h with rfl | h
    · rw [List.countP_cons_of_pos hq, List.countP_cons_of_neg (by rw [hp]; decide)]
      exact Nat.lt_succ_of_le (List.countP_mono_left fun z _ => hpq z)
    · have ih := countP_less hpq h hq hp
      by_cases hy : p y = true
      · rw [List.countP_cons_of_pos hy, List.countP_cons_of_pos (hpq y hy)]; omega
      · rw [List.countP_cons_of_neg hy]
        by_cases hy2 : q y = true
        · rw [List.countP_cons_of_pos hy2]; omega
        · rw [List.countP_cons_of_neg hy2]; exact ih
theorem rk_lt {l : List Str} {x y : Str} (hx : x ∈ l) : decide (x.cps.toList < y.cps.toList) = decide (rk l x < rk l y) := by
  by_cases h : x.cps.toList < y.cps.toList
  · rw [decide_eq_true h]
    have : rk l x < rk l y := by
      unfold rk
      have z := countP_less (p := fun z => ltS z x) (q := fun z => ltS z y) (l := l) (x := x) (fun z hz => decide_eq_true (List.lt_trans (of_decide_eq_true hz) h)) hx (decide_eq_true h) (decide_eq_false (List.lt_irrefl _))
      omega
    rw [decide_eq_true this]
  · rw [decide_eq_false h]
    have : ¬ rk l x < rk l y := by
      unfold rk
      have z := List.countP_mono_left (l := l) (p := fun z => ltS z y) (q := fun z => ltS z x) (fun z _ hz => by
        refine decide_eq_true ?_
        by_cases c : z.cps.toList < x.cps.toList
        · exact c
        · exact absurd (List.lt_of_le_of_lt (List.not_lt.mp c) (of_decide_eq_true hz)) h)
      omega
    rw [decide_eq_false this]
def hdTx : Option Value → Str
  | some (.str x _) => x
  | _ => ⟨#[]⟩
def dataTx : Data → Str
  | .seq xs _ => hdTx xs.toList.head?
  | _ => ⟨#[]⟩
def objTx : Option Obj → Str
  | some o => dataTx o.data
  | none => ⟨#[]⟩
/-- the key's text of the pair at v -/
def siTx (h : Heap) : Value → Str
  | .ref a => objTx (h.get? a)
  | _ => ⟨#[]⟩
def Pr (h : Heap) (v : Value) (y : Str) (i : Int) : Prop := ∃ (a : Addr) (o : Obj) (t u : Tok) (n : Nat), v = .ref a ∧ h.get? a = some o ∧ o.cls = .type "tuple" ∧ o.data = .seq #[.str y t, .int i u] n
theorem Pr.tx {h : Heap} {v : Value} {y : Str} {i : Int} (x : Pr h v y i) : siTx h v = y := by
  obtain ⟨a, o, t, u, n, rfl, ho, _, hd⟩ := x
  show objTx (h.get? a) = y
  rw [ho]
  show dataTx o.data = y
  rw [hd]; rfl
section
variable {prog : Program} {w : World} {A : Around} {E : Value → Shared → Prop} {s : Shared}
theorem heads {h : Heap} : ∀ vs : List Value, (∀ v ∈ vs, ∃ y i, Pr h v y i) → ∃ fs : List Value, PySem.W.KatTups h vs fs ∧ fs.length = vs.length ∧ ∀ f ∈ fs, ∃ (y : Str) (t : Tok), f = Value.str y t
  | [], _ => ⟨[], .nil, rfl, fun f hf => by simp at hf⟩
  | v :: vs, x => by
    obtain ⟨fs, k, hl, hi⟩ := heads vs fun u hu => x u (List.mem_cons_of_mem _ hu)
    obtain ⟨y, i, a, o, t, u, n, rfl, ho, hc, hd⟩ := x v (List.mem_cons_self ..)
    refine ⟨.str y t :: fs, .cons ho hc hd rfl k, by simp [hl], fun f hf => ?_⟩
    rcases List.mem_cons.mp hf with rfl | hf
    · exact ⟨y, t, rfl⟩
    · exact hi f hf
theorem kind {vs : List Value} {ρ : Str → Int} (h2 : 2 ≤ vs.length) (x : ∀ v ∈ vs, ∃ y i, Pr s.heap v y i) (hv : ∀ v ∈ vs, ∀ u ∈ vs, ∀ y i j, Pr s.heap v y i → Pr s.heap u y j → i = j)
    (hρ : ∀ v ∈ vs, ∀ u ∈ vs, decide ((siTx s.heap v).cps.toList < (siTx s.heap u).cps.toList) = decide (ρ (siTx s.heap v) < ρ (siTx s.heap u))) (Q : SortKind → Shared → Prop)
    (h : ∀ κ, TS.Cmp prog w A s κ (pairsOf vs) (fun v => ρ (siTx s.heap v)) → Q κ s) : wpAny (model prog w) A (keyKind' vs.toArray) Q E s := by
  obtain ⟨fs, k, hl, hi⟩ := heads vs x
  refine PySem.W.kat_kind (T := Value.type "str") k (by omega) (fun f hf => ?_) rfl (h _ ?_)
  · obtain ⟨y, t, rfl⟩ := hi f hf
    exact PySem.W.Looks.now
  · have hb : (Value.type "str" != Value.type "tuple") = true := by decide
    rw [hb]
    intro p q hp hq Q' E' hQ
    rw [pairsOf_toList] at hp hq
    have mp := (mem_zip_self hp).2
    have mq := (mem_zip_self hq).2
    obtain ⟨y, i, py⟩ := x _ mp
    obtain ⟨z, j, pz⟩ := x _ mq
    have hr := hρ _ mp _ mq
    have same := hv _ mp _ mq
    have hQ2 : Q' (decide (ρ (siTx s.heap p.1) < ρ (siTx s.heap q.1))) s := hQ
    rw [← hr, py.tx, pz.tx] at hQ2
    have same := fun e : y = z => same y i j py (by rw [e]; exact pz)
    obtain ⟨a, o, t, u, n, e1, ho, hc, hd⟩ := py
    obtain ⟨a', o', t', u', n', e2, ho', hc', hd'⟩ := pz
    rw [e1, e2]
    refine PySem.W.kat_lt ho hd ho' hd' ?_
    show PySem.W.KatLex prog w A true false Q' [(Value.str y t, Value.str z t'), (Value.int i u, Value.int j u')] 0 s
    refine PySem.W.kat_cons (SeqAt.EqAt.str_str y t z t' prog w _ _ (PySem.W.kat_go (fun e0 => ?_) fun e0 => ?_))
    · have e : y = z := by simpa using e0
      have irr : decide (y.cps.toList < z.cps.toList) = false := by rw [e]; exact decide_eq_false (List.lt_irrefl _)
      rw [irr] at hQ2
      refine PySem.W.kat_yes (PySem.W.kat_cons (SeqAt.EqAt.int_int i u j u' prog w _ _ (PySem.W.kat_go (fun _ => PySem.W.kat_yes (PySem.W.kat_nil hQ2)) fun e3 => ?_)))
      exact absurd (same e) (by simpa using e3)
    · exact PySem.W.kat_no (oneLt_str hQ2)
end
theorem pairs_at {P : Program} {w : World} {knd : KeyKind P w Key} : ∀ {es : List DictEntry} {vs : List (Key × Value)} {j : Nat} {e : DictEntry}, Pairs knd es vs → es[j]? = some e → ∃ k v, vs[j]? = some (k, v) ∧ knd.is k e.key = true ∧ e.val = v
  | _, _, j, e, .nil, h => by simp at h
  | _, _, 0, e, .cons (kv := kv) h1 h2 _, h => by
    simp at h; subst h
    exact ⟨kv.1, kv.2, rfl, h1, h2⟩
  | _, _, j + 1, e, .cons h1 h2 t, h => pairs_at (j := j) t (by simpa using h)
theorem kv_at {kvs : List (Key × V)} {vs : List (Key × Value)} (r : KV kvs vs) : ∀ {j : Nat} {k : Key} {v : Value}, vs[j]? = some (k, v) → ∃ x, kvs[j]? = some (k, x) ∧ RelV x v := by
  unfold KV at r
  induction r with
  | nil => intro j k v h; simp at h
  | cons h t ih =>
    rename_i a b l1 l2
    intro j k v e
    cases j with
    | zero =>
      simp at e; subst e
      obtain ⟨k', x⟩ := a
      have h1 : k' = k := h.1
      subst h1
      exact ⟨x, rfl, h.2⟩
    | succ j =>
      obtain ⟨x, e1, e2⟩ := ih (j := j) (by simpa using e)
      exact ⟨x, by simpa using e1, e2⟩

def keyTx : Key → Str
  | .inr x => x
  | .inl _ => ⟨#[]⟩
def tSI (te : TE) : TE := fun σ H Q => te σ H fun x H1 => ∃ (d : Addr) (kvs : List (Key × V)), x = .ref d ∧ Rd H1 d (.dK kvs) ∧ (∀ p ∈ kvs, (∃ z, p.1 = Sum.inr z) ∧ ∃ i, p.2 = .int i) ∧ kvs.length < 64 ∧
  ∀ (H' : Hp) (p : Addr) (ts : List Addr) (ys : List (Key × V)), Same H1 H' → H1 p = none → (∀ t ∈ ts, H1 t = none) → p ∉ ts → H' p = some (.lst (ts.map V.ref)) → ys.Perm kvs → ys.Pairwise (fun a b => (keyTx a.1).cps.toList ≤ (keyTx b.1).cps.toList) → Paired (fun (t : Addr) (q : Key × V) => H' t = some (.tup [kV q.1, q.2])) ts ys → Q (.ref p) H'
theorem rk_le {l : List Str} {x y : Str} (hy : y ∈ l) (h : rk l x ≤ rk l y) : x.cps.toList ≤ y.cps.toList := by
  refine List.not_lt.mp fun z => ?_
  have e := rk_lt (l := l) (x := y) (y := x) hy
  rw [decide_eq_true z] at e
  have := of_decide_eq_true e.symm
  omega
theorem paired_map {α β γ : Type} {F : β → γ → Prop} {f : α → β} {g : α → γ} : ∀ {l : List α}, (∀ z ∈ l, F (f z) (g z)) → Paired F (l.map f) (l.map g)
  | [], _ => .nil
  | z :: l, h => .cons (h z (by simp)) (paired_map fun x hx => h x (by simp [hx]))
theorem pe_SI {X : Cx} {e : Expr} {te : TE} {p apos cpos pos : Pos} (hc : X.calm = true) (he : PE X e te) (hg : Gl X "sorted") (hm : X.mg "sorted" = none) (hv : bootBuiltins "sorted" = some (.builtin "sorted")) (hb : attributeBase e "items" X.env (eval e X.env) = eval e X.env := by rfl) (hl : (apos.endLine == cpos.line) = true := by rfl)
    (hst : starEach [.Call (.Attribute e "items" apos) [] [] cpos] X.env = (false, eval (.Call (.Attribute e "items" apos) [] [] cpos) X.env) :: starEach [] X.env := by rfl) : PE X (.Call (.Name "sorted" p) [.Call (.Attribute e "items" apos) [] [] cpos] [] pos) (tSI te) := by
  constructor
  intro pins s σ H Q I hq
  refine wpAny_Call_Name_kw (ld_blt I hg hm hv (PyProof.Rows.callWith_builtin1 ?_ hst rfl))
  rw [hst]
  show wpAny _ _ (spliced ((false, eval (.Call (.Attribute e "items" apos) [] [] cpos) X.env) :: backTo pos (starEach ([] : List Expr) X.env))) _ _ s
  refine Calls.spliced_cons (wpAny_Call_method (T := "dict") (id := "dict.items") hb rfl hl F.plainAttrs_dict F.slot_dict_items F.type_dict_items (thn (he.run pins s σ H _ I hq) ?_))
  rintro u s1 ⟨x, H1, J1, rx, d, kvs, ex, hd, hki, h64, q⟩
  subst ex
  cases (show u = Value.ref d from rx)
  obtain ⟨hz, hs0, vs, kv, dd⟩ := dk_rd J1.hok hd
  obtain ⟨o, es, ep, ho, hx, hdat, _, hpr, hnd⟩ := id dd
  have hlen : kvs.length = vs.length := Paired.length kv
  have J2 : Inv X pins σ H1 { s1 with heap := s1.heap.push { cls := .type "dict_items", data := .fields #[.ref d] } } := J1.kept (t' := s1.toks) fun b ob z => Heap.get?_push_of_some _ z
  refine ⟨dd.typeIs, dd.mapOf.noDict, ?_⟩
  show wpAny _ _ (callWith cpos (.builtin "dict.items") [.ref d] ([] : List (Bool × Sem Value)) []) _ X.xe s1
  refine method_meetsIn F.slot_dict_items F.entry_dict_items rfl (PySem.evalArgs_none ⟨rfl, dd.typeIs, F.args_dict_items_1 _, _, meets_dict_items (mixKind X.prog X.w) d hs0, ⟨vs, dd⟩, Calls.spliced_nil ?_⟩)
  generalize hs2 : ({ s1 with heap := s1.heap.push { cls := .type "dict_items", data := .fields #[.ref d] } } : Shared) = s2 at J2 ⊢
  have hview : s2.heap.IsItemsView s1.heap.objs.size d := by rw [← hs2]; exact ⟨_, Heap.get?_push_size _ rfl, rfl, rfl⟩
  have hraw : DT.Raw s2.heap d es ep := by rw [← hs2]; exact ⟨o, Heap.get?_push_of_some _ ho, hx, hdat⟩
  have les : es.size = vs.length := by
    have : ∀ {es : List DictEntry} {vs : List (Key × Value)}, Pairs (mixKind X.prog X.w) es vs → es.length = vs.length := fun {es vs} r => by
      induction r with
      | nil => rfl
      | cons _ _ _ ih => simp [ih]
    have := this hpr
    rwa [Array.length_toList] at this
  refine DT.sortedI (es := es) (ep := ep) (J2.ok.hd hc) hview hraw (by rw [sizeLine_eq]; omega) fun h' tk as hk hlt hla hG => ?_
  have lak : as.length = kvs.length := by omega
  have nd : as.Nodup := List.Pairwise.imp (fun {a b} (z : a < b) => Nat.ne_of_lt z) hG.rise
  -- the pairs that were made
  have pr : ∀ (j : Nat) (b : Addr), as[j]? = some b → ∃ (z : Str) (i : Int) (t t2 : Tok), kvs[j]? = some (Sum.inr z, V.int i) ∧ h'.get? b = some { cls := .type "tuple", data := .seq #[Value.str z t, Value.int i t2] } := by
    intro j b hj
    obtain ⟨en, hen, hget⟩ := hG.pairs j b hj
    obtain ⟨k, v, hvj, hkey, hval⟩ := pairs_at hpr (by rw [Array.getElem?_toList]; exact hen)
    obtain ⟨y, hkj, ry⟩ := kv_at kv hvj
    obtain ⟨⟨z, ez⟩, i, ei⟩ := hki _ (List.mem_of_getElem? hkj)
    cases ez
    cases ei
    obtain ⟨t, et⟩ := (show RelV (V.str z) en.key from relV_key (k := Sum.inr z) hkey)
    obtain ⟨t2, et2⟩ := (show RelV (V.int i) v from ry)
    refine ⟨z, i, t, t2, hkj, ?_⟩
    rw [hget, et, hval, et2]
  have hkn : (kvs.map (·.1)).Nodup := by rw [kv.keys]; exact hnd
  -- the heap of the sort
  have hob : (h'.push { cls := .type "list", data := .seq (as.map Value.ref).toArray }).get? h'.objs.size = some (seqObj "list" (as.map Value.ref).toArray 0) := Heap.get?_push_size _ rfl
  have ne0 : ∀ b ob, h'.get? b = some ob → b ≠ h'.objs.size := fun b ob z => Nat.ne_of_lt (Heap.lt_size z)
  generalize hh3 : h'.push { cls := .type "list", data := .seq (as.map Value.ref).toArray } = h3 at hob ⊢
  have ka : ∀ b ob, h'.get? b = some ob → h3.get? b = some ob := fun b ob z => by rw [← hh3]; exact Heap.get?_push_of_some _ z
  have pin : ∀ (j : Nat) (b : Addr), as[j]? = some b → ∃ (z : Str) (i : Int), kvs[j]? = some (Sum.inr z, V.int i) ∧ Pr (TS.midHeap h3 h'.objs.size (as.map Value.ref)) (.ref b) z i := by
    intro j b hj
    obtain ⟨z, i, t, t2, hkj, hget⟩ := pr j b hj
    exact ⟨z, i, hkj, b, _, t, t2, 0, rfl, TS.midHeap_old (ne0 _ _ hget) (ka _ _ hget), rfl, rfl⟩
  have at_ : ∀ v ∈ as.map Value.ref, ∃ (j : Nat) (b : Addr) (z : Str) (i : Int), v = .ref b ∧ as[j]? = some b ∧ kvs[j]? = some (Sum.inr z, V.int i) ∧ Pr (TS.midHeap h3 h'.objs.size (as.map Value.ref)) v z i := by
    intro v hv'
    obtain ⟨b, hbm, rfl⟩ := List.mem_map.mp hv'
    obtain ⟨j, hj⟩ := List.mem_iff_getElem?.mp hbm
    obtain ⟨z, i, h1, h2⟩ := pin j b hj
    exact ⟨j, b, z, i, rfl, hj, h1, h2⟩
  generalize hmid : TS.midHeap h3 h'.objs.size (as.map Value.ref) = hM at pin at_
  have keyAt : ∀ {j j2 : Nat} {z : Str} {a b : V}, kvs[j]? = some (Sum.inr z, a) → kvs[j2]? = some (Sum.inr z, b) → j = j2 := fun {j j2 z a b} e1 e2 => by
    have f1 : (kvs.map (·.1))[j]? = some (Sum.inr z) := by rw [List.getElem?_map, e1]; rfl
    have f2 : (kvs.map (·.1))[j2]? = some (Sum.inr z) := by rw [List.getElem?_map, e2]; rfl
    exact (List.getElem?_inj (List.getElem?_eq_some_iff.mp f1).1 hkn).mp (f1.trans f2.symm)
  let zs0 : List Str := kvs.map fun p => keyTx p.1
  have memz : ∀ {j : Nat} {z : Str} {a : V}, kvs[j]? = some (Sum.inr z, a) → z ∈ zs0 := fun {j z a} e1 => List.mem_map.mpr ⟨_, List.mem_of_getElem? e1, rfl⟩
  refine wpAny_call_entry PyProof.Rows.slot_list_sort ⟨_, hob, rfl⟩ PyProof.Rows.entry_list_sort (SK.plain_sort (s := { s2 with heap := h3, toks := tk }) (r := fun v => rk zs0 (siTx hM v)) hob (by rw [List.length_map]; omega) (fun h2' Qk hQk => ?_) fun ps out o1 o2 o3 => ⟨.none, rfl, ?_⟩) (PyProof.Rows.args_list_sort _)
  · have hQk : ∀ κ, TS.Cmp X.prog X.w X.A.in1.in1 { s2 with heap := hM, toks := tk } κ (pairsOf (as.map Value.ref)) (fun v => rk zs0 (siTx hM v)) → Qk κ { s2 with heap := hM, toks := tk } := fun κ c => by
      have z := hQk κ
      rw [show TS.midHeap ({ s2 with heap := h3, toks := tk } : Shared).heap h'.objs.size (as.map Value.ref) = hM from hmid] at z
      exact z c
    rw [show TS.midHeap ({ s2 with heap := h3, toks := tk } : Shared).heap h'.objs.size (as.map Value.ref) = hM from hmid]
    refine kind (s := { s2 with heap := hM, toks := tk }) (ρ := rk zs0) h2' (fun v hv' => ?_) (fun v hv' u hu' y i j p1 p2 => ?_) (fun v hv' u hu' => ?_) Qk hQk
    · obtain ⟨j, b, z, i, _, _, _, h⟩ := at_ v hv'
      exact ⟨z, i, h⟩
    · obtain ⟨j1, b1, z1, i1, rfl, a1, k1, q1⟩ := at_ v hv'
      obtain ⟨j2, b2, z2, i2, rfl, a2, k2, q2⟩ := at_ u hu'
      have e1 : z1 = y := q1.tx.symm.trans p1.tx
      have e2 : z2 = y := q2.tx.symm.trans p2.tx
      subst e1
      subst e2
      have := keyAt k1 k2
      subst this
      rw [a1] at a2; cases a2
      obtain ⟨_, ob, _, _, _, r1, r2, _, r3⟩ := p1
      obtain ⟨_, ob', _, _, _, r1', r2', _, r3'⟩ := p2
      cases r1; cases r1'
      rw [r2] at r2'; cases r2'
      rw [r3] at r3'
      injection r3' with e _
      have := congrArg Array.toList e
      simp at this
      exact this.2.1
    · obtain ⟨j1, b1, z1, i1, rfl, a1, k1, q1⟩ := at_ v hv'
      obtain ⟨j2, b2, z2, i2, rfl, a2, k2, q2⟩ := at_ u hu'
      show decide ((siTx hM (.ref b1)).cps.toList < (siTx hM (.ref b2)).cps.toList) = decide (rk zs0 (siTx hM (.ref b1)) < rk zs0 (siTx hM (.ref b2)))
      rw [q1.tx, q2.tx]
      exact rk_lt (memz k1)
  · show EP X pins σ _ (.ref h'.objs.size) { s2 with heap := sortedHeap h3 h'.objs.size (as.map Value.ref) out, toks := tk }
    obtain ⟨zs, pz, ez⟩ := L2.perm_lift (fun z : Addr × (Key × V) => (Value.ref z.1, Value.ref z.1)) o2 (as.zip kvs) (L2.DX.zip_self Value.ref as kvs lak)
    have idx : ∀ z ∈ zs, ∃ j : Nat, as[j]? = some z.1 ∧ kvs[j]? = some z.2 := fun z hz' => by
      obtain ⟨j, hj⟩ := List.mem_iff_getElem?.mp (pz.mem_iff.mp hz')
      exact ⟨j, List.getElem?_zip_eq_some.mp hj⟩
    have tx : ∀ z ∈ zs, siTx hM (.ref z.1) = keyTx z.2.1 ∧ keyTx z.2.1 ∈ zs0 := fun z hz' => by
      obtain ⟨j, j1, j2⟩ := idx z hz'
      obtain ⟨y, i, k1, k2⟩ := pin j z.1 j1
      rw [j2] at k1
      have e : z.2 = (Sum.inr y, V.int i) := Option.some.inj k1
      rw [e]
      exact ⟨k2.tx, memz (j := j) (z := y) (a := V.int i) (by rw [j2, e])⟩
    have hout : out.toList = zs.map fun z => Value.ref z.1 := by rw [o1, ← ez, List.map_map]; rfl
    have hperm : (zs.map (·.2)).Perm kvs := by
      have z := pz.map (·.2)
      rwa [List.map_snd_zip (by rw [lak]; exact Nat.le_refl _)] at z
    have hsort : (zs.map (·.2)).Pairwise (fun a b => (keyTx a.1).cps.toList ≤ (keyTx b.1).cps.toList) := by
      rw [← ez, List.pairwise_map] at o3
      rw [List.pairwise_map]
      refine List.Pairwise.imp_of_mem (fun {x y} hx hy h => ?_) o3
      have h2 : rk zs0 (siTx hM (.ref x.1)) ≤ rk zs0 (siTx hM (.ref y.1)) := h
      rw [(tx x hx).1, (tx y hy).1] at h2
      exact rk_le (tx y hy).2 h2
    have off : ∀ b ob, h'.get? b = some ob → (sortedHeap h3 h'.objs.size (as.map Value.ref) out).get? b = some ob := fun b ob z => (PyProof.Rows.sortedHeap_old (ne0 b ob z) (Heap.lt_size (ka b ob z))).trans (ka b ob z)
    obtain ⟨eF, heF⟩ := PyProof.Rows.sortedHeap_at (vs := as.map Value.ref) (out := out) hob
    have I1 : Inv X pins σ H1 { s2 with heap := sortedHeap h3 h'.objs.size (as.map Value.ref) out, toks := tk } := J2.kept (t' := tk) fun b ob z => off b ob (hk b ob z)
    have hn0 : H1 h'.objs.size = none := J2.hok.fresh (Nat.le_of_lt hlt)
    have rv : Vals (zs.map fun z => V.ref z.1) out.toList := by
      rw [hout]
      exact L2.vals_maps (fun z : Addr × (Key × V) => V.ref z.1) (fun z => Value.ref z.1) zs fun _ _ => rfl
    have zl : (zs.map fun z => V.ref z.1).length ≤ sizeLine := by
      have z := hperm.length_eq
      rw [List.length_map] at z
      rw [List.length_map, sizeLine_eq]; omega
    have I2 : Inv X pins σ (upd H1 h'.objs.size (.lst (zs.map fun z => V.ref z.1))) { s2 with heap := sortedHeap h3 h'.objs.size (as.map Value.ref) out, toks := tk } :=
      I1.take (h' := sortedHeap h3 h'.objs.size (as.map Value.ref) out) (t' := tk) (fun b ob _ z => z) (J2.fpOk (Nat.le_of_lt hlt) hn0) ⟨zl, out.toList, eF, rv, heF⟩
    obtain ⟨H2, I3, g, qt⟩ := L2.DX.takeT (P := fun b vs => ∃ (j : Nat) (z : Str) (i : Int), as[j]? = some b ∧ kvs[j]? = some (Sum.inr z, V.int i) ∧ vs = [.str z, .int i]) J2 as _ I2 nd fun b hbm => by
      obtain ⟨j, hj⟩ := List.mem_iff_getElem?.mp hbm
      obtain ⟨z, i, t, t2, hkj, hget⟩ := pr j b hj
      have hbl : s2.heap.objs.size ≤ b := Nat.le_of_lt (hG.above b hbm)
      refine ⟨hbl, ?_, [.str z, .int i], ⟨j, z, i, hj, hkj, rfl⟩, fun H3 => ⟨(by rw [sizeLine_eq]; show 2 ≤ 16777216; omega), [Value.str z t, Value.int i t2], .cons ⟨t, rfl⟩ (.cons ⟨t2, rfl⟩ .nil), ⟨_, off _ _ hget, rfl, 0, rfl⟩⟩⟩
      rw [upd_ne (ne0 _ _ hget)]
      exact J2.hok.fresh hbl
    have new : ∀ t ∈ as, H1 t = none := fun t ht => J2.hok.fresh (Nat.le_of_lt (hG.above t ht))
    have nin : h'.objs.size ∉ as := fun z => by
      obtain ⟨j, hj⟩ := List.mem_iff_getElem?.mp z
      obtain ⟨_, _, _, _, _, hget⟩ := pr j _ hj
      exact ne0 _ _ hget rfl
    refine ⟨.ref h'.objs.size, H2, I3, rfl, q H2 h'.objs.size (zs.map (·.1)) (zs.map (·.2)) (fun b ob z => g b ob (by rw [upd_ne (ne_of_none z hn0)]; exact z)) hn0 (fun t ht => ?_) (fun z => ?_) ?_ hperm hsort (paired_map fun z hz' => ?_)⟩
    · obtain ⟨z, hz', rfl⟩ := List.mem_map.mp ht
      obtain ⟨j, j1, _⟩ := idx z hz'
      exact new _ (List.mem_of_getElem? j1)
    · obtain ⟨z, hz', e⟩ := List.mem_map.mp z
      obtain ⟨j, j1, _⟩ := idx z hz'
      exact nin (by rw [← e]; exact List.mem_of_getElem? j1)
    · rw [List.map_map]
      exact g _ _ upd_same
    · obtain ⟨j, j1, j2⟩ := idx z hz'
      obtain ⟨vs', ⟨j', y, i, k1, k2, ev⟩, hH⟩ := qt z.1 (List.mem_of_getElem? j1)
      have eij : j = j' := (List.getElem?_inj (List.getElem?_eq_some_iff.mp j1).1 nd).mp (j1.trans k1.symm)
      subst eij
      rw [j2] at k2
      have e : z.2 = (Sum.inr y, V.int i) := Option.some.inj k2
      show H2 z.1 = some (.tup [kV z.2.1, z.2.2])
      rw [hH, ev, e]; rfl
end QD.SI
namespace QD
open PySem PySem.Spec L2 PyProof.Rows
/-- keys are texts; values ints -/
def sortItR : D → (D → Prop) → Prop
  | .dic kds, P => (∀ p ∈ kds, (∃ x, p.1 = Sum.inr x) ∧ ∃ i, p.2 = .int i) ∧ kds.length < 64 ∧ ∀ ys : List (Key × D), ys.Perm kds → ys.Pairwise (fun p q => (SI.keyTx p.1).cps.toList ≤ (SI.keyTx q.1).cps.toList) → P (.lst (ys.map fun p => .tup [keyD p.1, p.2]))
  | _, _ => False
def uR1 (fn : D → (D → Prop) → Prop) (ua : UE) : UE := fun XQ L QD => ua XQ L fun L' a => ∃ x, a.vg L' = some x ∧ fn x fun d => QD L' (.f d)
theorem RepK.perm {K : PySem.W.Frag} {G : Hp} : ∀ {ys kvs : List (Key × V)}, ys.Perm kvs → ∀ {kds : List (Key × D)}, RepK K G kvs kds → ∃ yds, yds.Perm kds ∧ RepK K G ys yds := by
  intro ys kvs h
  induction h with
  | nil => intro kds r; cases r; exact ⟨[], .refl _, .nil⟩
  | cons x _ ih =>
    intro kds r
    cases r with
    | cons r t =>
      obtain ⟨yds, p, q⟩ := ih t
      exact ⟨_ :: yds, p.cons _, .cons r q⟩
  | swap x y l =>
    intro kds r
    cases r with
    | cons r t =>
      cases t with
      | cons r2 t2 => exact ⟨_, .swap _ _ _, .cons r2 (.cons r t2)⟩
  | trans _ _ ih1 ih2 =>
    intro kds r
    obtain ⟨y1, p1, q1⟩ := ih2 r
    obtain ⟨y2, p2, q2⟩ := ih1 q1
    exact ⟨y2, p2.trans p1, q2⟩
theorem RepK.keysMap {K : PySem.W.Frag} {G : Hp} : ∀ {vs ds}, RepK K G vs ds → vs.map (·.1) = ds.map (·.1)
  | _, _, .nil => rfl
  | _, _, .cons _ t => by simp [t.keysMap]
theorem RepK.ints {K : PySem.W.Frag} {G : Hp} : ∀ {vs ds}, RepK K G vs ds → (∀ p ∈ ds, (∃ x, p.1 = Sum.inr x) ∧ ∃ i, p.2 = D.int i) → ∀ p ∈ vs, (∃ z, p.1 = Sum.inr z) ∧ ∃ i, p.2 = V.int i
  | _, _, .nil, _ => fun p hp => by cases hp
  | _, _, .cons (k := k) (v := v) (d := d) r t, h => fun p hp => by
    rcases List.mem_cons.mp hp with rfl | hp
    · obtain ⟨h1, i, hi⟩ := h (k, d) (by simp)
      have hi : d = .int i := hi
      subst hi
      cases r
      exact ⟨h1, i, rfl⟩
    · exact t.ints (fun q hq => h q (by simp [hq])) p hp
section
variable {X : Cx} {E : XK} {e : Expr} {ua : UE} {p pos apos cpos : Pos}
theorem dx_sortItems (hu : X.A.units + 64 < cLine) (ha : DO X E e ua) (hg : Gl X "sorted") (hm : X.mg "sorted" = none) (hv : bootBuiltins "sorted" = some (.builtin "sorted")) (hc : X.calm = true := by rfl) (hb : attributeBase e "items" X.env (eval e X.env) = eval e X.env := by rfl) (hl : (apos.endLine == cpos.line) = true := by rfl)
    (hst : starEach [.Call (.Attribute e "items" apos) [] [] cpos] X.env = (false, eval (.Call (.Attribute e "items" apos) [] [] cpos) X.env) :: starEach [] X.env := by rfl) : DX X E (.Call (.Name "sorted" p) [.Call (.Attribute e "items" apos) [] [] cpos] [] pos) (uR1 sortItR ua) := by
  obtain ⟨t, pa, ok⟩ := ha.ex
  refine ⟨_, SI.pe_SI hc pa hg hm hv hb hl hst, fun F lk G L σ H Q QD XQ M xl hu po => ?_⟩
  refine ok F lk G L σ H _ _ XQ M xl hu fun x H1 G1 L1 aa s1 M1 r1 n1 q1 => ?_
  obtain ⟨d1, e1, q⟩ := q1
  cases d1 <;> first | exact q.elim | skip
  rename_i kds
  obtain ⟨q1, q3, q⟩ := q
  obtain ⟨a, kvs, rfl, rd, rk⟩ := M1.vwG r1 e1
  refine ⟨a, kvs, rfl, rd, rk.ints q1, by rw [rk.len]; exact q3, fun H' c ts ys sH hc hts hct hl hp hs hpt => ?_⟩
  obtain ⟨yds, py, ry⟩ := rk.perm hp
  obtain ⟨G2, s2, M2, g1, g2⟩ := M1.lay sH ts hts
  have hs' : yds.Pairwise (fun p q => (SI.keyTx p.1).cps.toList ≤ (SI.keyTx q.1).cps.toList) := by
    have z : (ys.map (·.1)).Pairwise (fun p q => (SI.keyTx p).cps.toList ≤ (SI.keyTx q).cps.toList) := List.pairwise_map.mpr hs
    rw [ry.keysMap] at z
    exact (List.pairwise_map (f := fun q : Key × D => q.1) (R := fun p q => (SI.keyTx p).cps.toList ≤ (SI.keyTx q).cps.toList)).mp z
  refine po (.ref c) H' G2 L1 (.f (.lst (yds.map fun p => .tup [keyD p.1, p.2]))) (s1.trans s2) M2 ⟨c, rfl, ⟨_, hl, pairs_repsL s2 ry hpt g1⟩, ?_, M1.bnone hc, M1.lknone hc, M1.dom c hc, M1.noaddr hc⟩ (q yds py hs')
  rw [g2 c hct]; exact M1.gnone hc
end
end QD

set_option Elab.async false
set_option linter.all false
set_option maxRecDepth 100000
set_option maxHeartbeats 4000000
namespace QD
open PySem PySem.Spec L2 PyProof.Rows
/-! operators from the bundles -/
theorem op_owB_of {X : Cx} {C : Addr} {m : Str} {k : Nat} {ps : List Str} {sp : Sp} {op : Operator} (c : Mth X.prog X.w X.K X.mg X.base k C m ps sp) (hc : PySem.W.selfFirst X.K C = true) (hr : Room k X.A) (hm : PySem.dunder op.info.2 = m := by rfl) : OpR X (binaryOp op) (rOwB C sp) := by
  obtain ⟨fa, fd, F, M, hb⟩ := c.ex
  exact op_owB hc ⟨by rw [hm]; exact M.at_, M.fn⟩ F hr hb
/-- what int and the class say of an operator -/
structure OwI (K : PySem.W.Frag) (C : Addr) (op : Operator) : Prop where
  ex : ∃ fo ro rc, PySem.W.findIn K (.ref C) (PySem.dunderR op.info.2) = some rc ∧ (rc = none ∨ ∃ g : Addr, rc = some (.ref g)) ∧ PySem.W.findIn K (.type "int") (PySem.dunder op.info.2) = some fo ∧ PySem.W.findIn K (.type "int") (PySem.dunderR op.info.2) = some ro ∧ PySem.W.subIn K (.type "int") (.ref C) = some false
theorem op_owI_of {X : Cx} {C : Addr} {m : Str} {k : Nat} {ps : List Str} {sp : Sp} {op : Operator} (c : Mth X.prog X.w X.K X.mg X.base k C m ps sp) (hc : PySem.W.selfFirst X.K C = true) (hi : OwI X.K C op) (hr : Room k X.A) (hm : PySem.dunder op.info.2 = m := by rfl) : OpR X (binaryOp op) (rOwI C sp) := by
  obtain ⟨fa, fd, F, M, hb⟩ := c.ex
  obtain ⟨fo, ro, rc, h0, hp, h1, h2, h3⟩ := hi.ex
  exact op_owI hc ⟨by rw [hm]; exact M.at_, M.fn⟩ F hr hb h0 hp h1 h2 h3
theorem op_owN_of {X : Cx} {C : Addr} {k : Nat} {ps : List Str} {sp : Sp} (c : Mth X.prog X.w X.K X.mg X.base k C "__neg__" ps sp) (hr : Room k X.A) : UnR X (unaryOp .USub) (rOwN C sp) := by
  obtain ⟨fa, fd, F, M, hb⟩ := c.ex
  exact op_owN ⟨M.at_, M.fn⟩ F hr hb
end QD

set_option Elab.async false
set_option linter.all false
set_option maxRecDepth 100000
set_option maxHeartbeats 4000000
namespace QD
open PySem PySem.Spec L2 PyProof.Rows
/-! a def that gives a pair of which the second is a new container, still its caller's own -/
abbrev TFM := XP → D → List D → (D → D → D → Prop) → Prop
def SpM (K : PySem.W.Frag) (ms : List Md) (t : TFM) : Sp := fun vs H Q E => ∃ (r : Addr) (ws : List V) (G : Hp) (d0 : D) (ds : List D) (QD : D → D → D → Prop), vs = .ref r :: ws ∧ Same G H ∧ G r = none ∧ Own K G H r d0 ∧
  Args K G (del H r) ms ws ds ∧ t noX d0 ds QD ∧ ∀ tp x h H' G' d' d1 d2, (∀ b o, b ≠ r → H b = some o → H' b = some o) → Same G G' → Same G' H' → (∀ a, G a = none → G' a ≠ none → H a = none) → G' r = none → Own K G' H' r d' →
    G' tp = some (.tup [x, .ref h]) → Rep K G' x d1 → Own K G' H' h d2 → G' h = none → H h = none → QD d' d1 d2 → Q (.ref tp) H'
def uDefM (ms : List Md) (n : Nat) (u : US) (ue : UG) (i : Nat) : TFM := fun _ d0 ds QD => u noX { nx := fun L => ue noX L fun L' d1 => ∃ d' d2, ownAt L' 0 = some d' ∧ L'[i]? = some (some (.o d2)) ∧ QD d' d1 d2, rt := fun _ _ => False } (some (.p d0) :: (argL ms ds ++ List.replicate n none))
/-- the first of the pair that a body's last statement gives -/
def lastFst (st : Stmt) : Expr := match (defBody st).getLast? with
  | some (.Return (some (.Tuple (e :: _) _ _)) _) => e
  | _ => .Name Str.empty ⟨0, 0, 0, 0⟩
/-- the statements ahead of the last -/
structure DSl (X : Cx) (E : XK) (pre : List Stmt) (u : US) : Prop where
  ex : ∀ {rest tr}, PSs X rest tr → ∃ t, PSs X (pre ++ rest) t ∧ ∀ F lk G L σ H (Dn : Ends) (N : Env' → Prop) XQ, Mem X.K F lk G L σ H → XLk X.K F lk E XQ → u XQ { nx := N, rt := fun _ _ => False } L →
    (∀ G' L' σ' H', Same G G' → Mem X.K F lk G' L' σ' H' → N L' → tr Dn σ' H') → t Dn σ H
theorem dsl_one {X : Cx} {E : XK} {st : Stmt} {u : US} (h : DS X E st u) : DSl X E [st] u := by
  refine ⟨fun {rest tr} pr => ?_⟩
  obtain ⟨t, p, ok⟩ := h.ex
  refine ⟨_, pss_cons p pr, fun F lk G L σ H Dn N XQ M xl hu k => ?_⟩
  exact ok F lk G L σ H _ _ XQ M xl hu ⟨fun G' L' σ' H' s M' q => k G' L' σ' H' s M' q, fun _ _ _ _ _ _ q => q.elim, fun _ _ _ _ _ _ q => q.elim, fun _ _ _ _ _ _ _ _ _ q => q.elim⟩
theorem dsl_cons {X : Cx} {E : XK} {st : Stmt} {pre : List Stmt} {u u2 : US} (h : DS X E st u) (h2 : DSl X E pre u2) : DSl X E (st :: pre) (uSeq u u2) := by
  refine ⟨fun {rest tr} pr => ?_⟩
  obtain ⟨t, p, ok⟩ := h.ex
  obtain ⟨t2, p2, ok2⟩ := h2.ex pr
  refine ⟨_, pss_cons p p2, fun F lk G L σ H Dn N XQ M xl hu k => ?_⟩
  exact ok F lk G L σ H _ _ XQ M xl hu ⟨fun G' L' σ' H' s M' q => ok2 F lk G' L' σ' H' Dn N XQ M' xl q fun G'' L'' σ'' H'' s' => k G'' L'' σ'' H'' (s.trans s'), fun _ _ _ _ _ _ q => q.elim, fun _ _ _ _ _ _ q => q.elim, fun _ _ _ _ _ _ _ _ _ q => q.elim⟩
section
variable {P : Program} {w : World} {K : PySem.W.Frag} {mg : Str → Option Value} {base : Heap}
theorem fn_m {qual : Str} {st : Stmt} {f : Addr} {fd : FuncData} {N ps : List Str} {k : Nat} {ms : List Md} {u : US} {ue : UG} {i : Nat} (F : FunU K qual st f fd) (S : FnScope N ps (defScope st)) (hm : ms.length + 1 = ps.length) (n : Nat) (hn : N.length - ps.length = n)
    {x : Str} {px tpos pos : Pos} {kk : Nat} (hst : defBody st = (defBody st).dropLast ++ [.Return (some (.Tuple [lastFst st, .Name x px] kk tpos)) pos])
    (hbody : ∀ (cdv : Value) (A : Around) (outer : List Env) (s : Shared) (H : Hp) (E : XK), Room k (A.deeper (envOfC qual (defScope st) s.heap.objs.size f cdv)) → DSl (cxOf CX0 P w K mg base N qual (defScope st) f cdv A outer s H E).nox E (defBody st).dropLast u ∧ DG (cxOf CX0 P w K mg base N qual (defScope st) f cdv A outer s H E).nox E (lastFst st) ue ∧
      PE (cxOf CX0 P w K mg base N qual (defScope st) f cdv A outer s H E).nox (.Name x px) (tVar i) ∧ starEach [lastFst st, .Name x px] (cxOf CX0 P w K mg base N qual (defScope st) f cdv A outer s H E).nox.env = (false, eval (lastFst st) (cxOf CX0 P w K mg base N qual (defScope st) f cdv A outer s H E).nox.env) :: starEach [.Name x px] (cxOf CX0 P w K mg base N qual (defScope st) f cdv A outer s H E).nox.env) :
    FnOk P w K mg base CX0 (k + 1) f fd ps (SpM K ms (uDefM ms n u ue i)) := by
  refine F.ok S (fun vs H Q E h => ?_) (fun cdv A outer s H vs Q E hr h => ?_)
  · obtain ⟨r, ws, G, d0, ds, QD, rfl, _, _, _, a, _⟩ := h
    rw [← hm, ← a.len]; rfl
  · obtain ⟨r, ws, G, d0, ds, QD, rfl, s0, hg, ow, a, ht, kq⟩ := h
    obtain ⟨hpre, he, hx, hstar⟩ := hbody cdv A outer s H E hr
    obtain ⟨te, pe, oke⟩ := he.ex
    have pr : PSs _ [.Return (some (.Tuple [lastFst st, .Name x px] kk tpos)) pos] _ := pss_one (ps_ret (pe_tup (pa_cons pe (pa_cons hx pa_nil) hstar)))
    obtain ⟨t, p, ok⟩ := hpre.ex pr
    rw [hst]
    have hpl : ps.length ≤ N.length := by have := congrArg List.length S.pre; rw [List.length_take] at this; omega
    have hl : ws.length + 1 = ps.length := by rw [a.len, hm]
    refine ⟨t, p, ok ⟨H, G, del H r, [(0, r)], fun _ => none⟩ lk0 G _ _ H _ _ noX (mem_startO s0 hg ow a (by omega)) ⟨.inl rfl, fun _ _ _ _ _ _ _ _ _ _ _ _ z => z.elim⟩ (by
      have ht : u noX _ (some (.p d0) :: (argL ms ds ++ List.replicate n none)) := ht
      rw [← hn, ← hl] at ht
      exact ht) fun G1 L1 σ1 H1 s1 M1 q1 => ?_⟩
    refine oke _ lk0 G1 L1 σ1 H1 _ _ noX M1 ⟨.inl rfl, fun _ _ _ _ _ _ _ _ _ _ _ _ z => z.elim⟩ q1 fun x1 H2 G2 L2 d1 s2 M2 r2 q2 => ?_
    obtain ⟨d', d2, e1', e2', q⟩ := q2
    obtain ⟨h, hv, _⟩ := M2.ownV (show ownAt L2 i = some d2 by unfold ownAt; rw [e2']; rfl)
    refine ⟨.ref h, hv, by show 2 ≤ sizeLine; decide, fun tp htp => ?_⟩
    obtain ⟨M3, s3⟩ := M2.madeG (o := .tup [x1, .ref h]) htp
    have hb := M3.bH
    have hg' := M3.gH
    rw [lkd0] at hb hg'
    obtain ⟨z1, y1, l1⟩ := M3.par (0, r) (by simp)
    obtain ⟨a', e', o'⟩ := M3.slot e1' z1
    cases e'
    obtain ⟨c, c1, c2⟩ := ownAt_some e1'
    obtain ⟨w1, w2, _⟩ := M3.own i _ d2 h e2' rfl hv
    exact kq tp x1 h _ _ d' d1 d2 (fun b o hne e => hb b o (by show del H r b = some o; rw [del_ne hne]; exact e)) M3.g0 hg' (fun b h1 h2 => M3.new b h1 h2) (M3.own 0 c d' r c1 c2 z1).1 o' upd_same (Rep.tr (Tr.same s3) r2)
      (M3.ownS (show ownAt L2 i = some d2 by unfold ownAt; rw [e2']; rfl) hv) w1 (M3.ownO i d2 h e2' hv) q
end
section
variable {K : PySem.W.Frag} {F : FB} {lk : Lk} {G : Hp} {L : Env'} {σ : St} {H : Hp}
theorem call_backM {E : XK} {ms : List Md} {t : TFM} {ws : List V} {ds : List D} {i : Nat} {r : Addr} {d0 : D} {Q : VK} {QD : D → D → D → Prop} (M : Mem K F lk G L σ H) (h0 : ownAt L i = some d0) (hv : σ[i]? = some (some (.ref r))) (a : Args K (lkd lk G) (del H r) ms ws ds) (ht : t noX d0 ds QD)
    (k : ∀ tp x h H' G' d' d1 d2, Same G G' → Mem K F lk G' (putO L i d') σ H' → G' tp = some (.tup [x, .ref h]) → Rep K G' x d1 → HR K F lk G' (putO L i d') σ H' (.ref h) (.f d2) → QD d' d1 d2 → Q (.ref tp) H') : SpM K ms t (.ref r :: ws) H Q E := by
  obtain ⟨c0, z1, z2⟩ := ownAt_some h0
  obtain ⟨m1, m2, m3⟩ := M.own i c0 d0 r z1 z2 hv
  obtain ⟨_, e, o⟩ := M.slot h0 hv
  cases e
  have hgr : lkd lk G r = none := by unfold lkd; rw [m3]; exact m1
  refine ⟨r, ws, lkd lk G, d0, ds, QD, rfl, M.gH, hgr, o.mono (Tr.lock M.okG) rfl, a, ht, fun tp x h H' Gc d' d1 d2 s1 s2 s3 hn hc ow htp rx oh gh hh q => ?_⟩
  obtain ⟨G2, sg, M2, e, hp⟩ := M.after (H' := fun b => if b = r then H r else H' b) (Gc := Gc) (fun b o e => by
      by_cases hb : b = r
      · subst hb; exact (if_pos rfl).trans e
      · exact (if_neg hb).trans (s1 b o hb e)) s2 (fun b o e => by
      have hb : b ≠ r := fun z => by rw [z, hc] at e; cases e
      exact (if_neg hb).trans (s3 b o e)) hn
  have T : Tr K Gc G2 := by
    have := Tr.unlock (K := K) M2.okG
    rwa [e] at this
  have M3 := M2.write (H' := H') h0 hv (fun b o hb e => (if_neg hb).symm.trans e) (ow.mono T rfl)
  have g2 : G2 tp = some (.tup [x, .ref h]) := by
    rw [← e] at htp
    rcases lkd_back htp with z | ⟨ob, u, _, _, z⟩
    · exact z
    · cases z
  exact k tp x h H' G2 d' d1 d2 sg M3 g2 (Rep.tr T rx) ⟨h, rfl, oh.mono T rfl, hp h hh gh, M.bnone hh, M.lknone hh, M.dom h hh, fun j c d' q1 q2 => by
    obtain ⟨c2, d2, y1, y2⟩ := putO_own h0 q1 q2
    exact M.noaddr hh j c2 d2 y1 y2⟩ q
end

/-- the four slots that a pair of pairs fills -/
def uMix4 (a b c d : Nat) (x1 h1 x2 h2 : D) (N : Env' → Prop) (L : Env') : Prop := a < L.length ∧ b < L.length ∧ c < L.length ∧ a ≠ b ∧ a ≠ c ∧ a ≠ d ∧ b ≠ c ∧ b ≠ d ∧ c ≠ d ∧ notP L a = true ∧ notP L b = true ∧ notP L c = true ∧ notP L d = true ∧
  N ((((L.set a (some (.g x1))).set b (some (.o h1))).set c (some (.g x2))).set d (some (.o h2)))
def uMixC (ir : Nat) (ms : List Md) (t : TFM) (L : Env') (as : List A) (QM : Env' → D → D → Prop) : Prop := ∃ as' d0 ds, as = .sl ir :: as' ∧ ownAt L ir = some d0 ∧ as'.all (notSl ir) = true ∧ argsOf L ms as' = some ds ∧ t noX d0 ds fun d' x h => QM (putO L ir d') x h
/-- (a, b), (c, d) = f(r, ..), f(r, ..) -/
def uMix (ir : Nat) (ms : List Md) (t : TFM) (w : UA) (a b c d : Nat) : US := fun XQ DD L => w XQ L fun L1 as => uMixC ir ms t L1 as fun L2 x1 h1 => w XQ L2 fun L3 bs => uMixC ir ms t L3 bs fun L4 x2 h2 => uMix4 a b c d x1 h1 x2 h2 DD.nx L4
theorem notP_set {L : Env'} {i j : Nat} {c : C} (hp : ∀ d, c ≠ .p d) (h : notP L i = true) : notP (L.set j (some c)) i = true := by
  by_cases e : i = j
  · subst e
    unfold notP
    rw [List.getElem?_set]
    split
    · rename_i d e1
      split at e1
      · split at e1
        · have := Option.some.inj (Option.some.inj e1)
          exact absurd this (hp d)
        · cases e1
      · rename_i z; exact absurd rfl z
    · rfl
  · unfold notP at h ⊢
    rw [List.getElem?_set_ne (Ne.symm e)]; exact h
section
variable {X : Cx} {E : XK} {es1 es2 : List Expr} {w : UA} {ms : List Md} {t : TFM} {st : Stmt}
theorem ds_mix (ir a b c d : Nat) (h1 : DA X E es1 w) (h2 : DA X E es2 w)
    (ps : ∀ {t1 t2}, PA X es1 t1 → PA X es2 t2 → PS X st (tAsg (fun σ H Q => tCall (SpM X.K ms t) [] E0 t1 σ H fun v1 H1 => tCall (SpM X.K ms t) [] E0 t2 σ H1 fun v2 H2 => 2 ≤ sizeLine ∧ ∀ p, H2 p = none → Q (.ref p) (upd H2 p (.tup [v1, v2])))
      (fun v σ H Q => ∃ p xs, v = .ref p ∧ SqT X.K H p xs ∧ xs.length = 2 ∧ ∃ v1 r, xs = v1 :: r ∧ (∃ p1 ys, v1 = .ref p1 ∧ SqT X.K H p1 ys ∧ ys.length = 2 ∧ ∃ y1 r1, ys = y1 :: r1 ∧ ∃ y2 r2, r1 = y2 :: r2 ∧ r2 = [] ∧
        ∃ v2 r', r = v2 :: r' ∧ (∃ p2 zs, v2 = .ref p2 ∧ SqT X.K H p2 zs ∧ zs.length = 2 ∧ ∃ z1 s1, zs = z1 :: s1 ∧ ∃ z2 s2, s1 = z2 :: s2 ∧ s2 = [] ∧ r' = [] ∧ Q ((((σ.set a (some y1)).set b (some y2)).set c (some z1)).set d (some z2)) H))))) : DS X E st (uMix ir ms t w a b c d) := by
  obtain ⟨t1, p1, ok1⟩ := h1.ex
  obtain ⟨t2, p2, ok2⟩ := h2.ex
  refine ⟨_, ps p1 p2, fun F lk G L σ H Dn DD XQ M xl hu l => ?_⟩
  refine ok1 F lk G L σ H _ _ XQ M xl hu fun vs H1 G1 L1 as s1 M1 rs n1 q1 => ?_
  obtain ⟨as', d0, ds, rfl, h0, hns, e1, q1⟩ := q1
  cases rs with
  | cons r0 rs =>
    have hv : σ[ir]? = some (some _) := r0
    obtain ⟨r, rfl, o⟩ := M1.slot h0 hv
    have a1 := M1.argsO h0 hv rs hns e1
    show SpM X.K ms t ((.ref r :: _) ++ []) H1 _ _
    rw [List.append_nil]
    refine call_backM M1 h0 hv a1 q1 fun tp1 x1 hh1 H2 G2 d' dx1 dh1 s2 M2 g2 rx1 rh1 q2 => ?_
    -- the first new container stands by
    obtain ⟨hp1, ehp, ow1, w1, w2, w3, w4, w5⟩ := rh1
    cases ehp
    obtain ⟨ob, hob⟩ := ow1.some_of
    have l0 : Lone F lk G2 (putO L1 ir d') σ hh1 := ⟨w1, w2, w3, w4, w5⟩
    have Mg := M2.guard hob l0
    refine ok2 (F.grd G2 hh1 ob) lk G2 _ σ H2 _ _ XQ Mg (XLk.guard (o := ob) M2 l0 xl) q2 fun us H3 G3 L3 bs s3 M3 rs3 n3 q3 => ?_
    obtain ⟨bs', d0', ds', rfl, h0', hns', e1', q3⟩ := q3
    cases rs3 with
    | cons r0' rs3 =>
      have hv' : σ[ir]? = some (some _) := r0'
      rw [hv] at hv'; cases hv'
      have a3 := M3.argsO h0' hv rs3 hns' e1'
      show SpM X.K ms t ((.ref r :: _) ++ []) H3 _ _
      rw [List.append_nil]
      refine call_backM M3 h0' hv a3 q3 fun tp2 x2 hh2 H4 G4 d'' dx2 dh2 s4 M4' g4 rx2 rh2 q4 => ?_
      obtain ⟨M4, hob4, l4⟩ := Mem.unguard M2 l0 M4'
      obtain ⟨hp2, ehp, ow2, y1, y2, y3, y4, y5⟩ := rh2
      cases ehp
      have ne : hh2 ≠ hh1 := fun z => by
        have z1 : upd F.Kp hh1 ob hh2 = none := y2.2
        rw [z, upd_same] at z1; cases z1
      have y2' : F.nk hh2 := ⟨y2.1, by
        have z1 : upd F.Kp hh1 ob hh2 = none := y2.2
        rwa [upd_ne ne] at z1⟩
      have y4' : F.H0 hh2 = none := by
        have z1 : upd F.H0 hh1 ob hh2 = none := y4
        rwa [upd_ne ne] at z1
      refine ⟨by decide, fun p hp => ?_⟩
      obtain ⟨M5, s5⟩ := M4.madeG (o := .tup [.ref tp1, .ref tp2]) hp
      have sA : Same G2 (upd G4 p (.tup [.ref tp1, .ref tp2])) := (s3.trans s4).trans s5
      have t1' : SqT X.K (upd H4 p (.tup [.ref tp1, .ref tp2])) tp1 [x1, .ref hh1] := M5.trG.t _ _ (.of (sA _ _ g2))
      have t2' : SqT X.K (upd H4 p (.tup [.ref tp1, .ref tp2])) tp2 [x2, .ref hh2] := M5.trG.t _ _ (.of (s5 _ _ g4))
      refine ⟨p, _, rfl, .of upd_same, rfl, _, _, rfl, tp1, _, rfl, t1', rfl, _, _, rfl, _, _, rfl, rfl, _, _, rfl, tp2, _, rfl, t2', rfl, _, _, rfl, _, _, rfl, rfl, rfl, ?_⟩
      obtain ⟨la, lb, lc, nab, nac, nad, nbc, nbd, ncd, na, nb, nc, nd, q4⟩ := q4
      have hlen := M5.len
      -- the two containers, now
      have pf : hh1 ≠ p := fun z => by rw [z, hp] at hob4; cases hob4
      have ow1' : Own X.K (upd G4 p (.tup [.ref tp1, .ref tp2])) (upd H4 p (.tup [.ref tp1, .ref tp2])) hh1 dh1 := ow1.mono (Tr.same sA) (by rw [upd_ne pf]; exact hob4.trans hob.symm)
      obtain ⟨ob2, hob2⟩ := ow2.some_of
      have pf2 : hh2 ≠ p := fun z => by rw [z, hp] at hob2; cases hob2
      have ow2' : Own X.K (upd G4 p (.tup [.ref tp1, .ref tp2])) (upd H4 p (.tup [.ref tp1, .ref tp2])) hh2 dh2 := ow2.mono (Tr.same s5) (by rw [upd_ne pf2])
      have g1 : upd G4 p (.tup [.ref tp1, .ref tp2]) hh1 = none := by rw [upd_ne pf]; exact l4.g
      have g2' : upd G4 p (.tup [.ref tp1, .ref tp2]) hh2 = none := by rw [upd_ne pf2]; exact y1
      have r1 : HR X.K F lk (upd G4 p (.tup [.ref tp1, .ref tp2])) (putO L3 ir d'') σ (upd H4 p (.tup [.ref tp1, .ref tp2])) (.ref hh1) (.f dh1) := ⟨hh1, rfl, ow1', g1, l4.k, l4.l, l4.h, l4.s⟩
      have r2 : HR X.K F lk (upd G4 p (.tup [.ref tp1, .ref tp2])) (putO L3 ir d'') σ (upd H4 p (.tup [.ref tp1, .ref tp2])) (.ref hh2) (.f dh2) := ⟨hh2, rfl, ow2', g2', y2', y3, y4', y5⟩
      have ns : ∀ (x : D) s, A.f x ≠ .sl s := fun _ _ z => nomatch z
      -- slot a
      have Ma := M5.set (v := x1) (c := .g dx1) na (Rep.tr (Tr.same sA) rx1) (fun _ z => nomatch z) (fun _ _ z => nomatch z)
      have r1a := HR.after_set (c := .g dx1) (v := x1) (i := a) (by omega) r1 (ns _) (fun _ _ _ _ z => absurd rfl z)
      have r2a := HR.after_set (c := .g dx1) (v := x1) (i := a) (by omega) r2 (ns _) (fun _ _ _ _ z => absurd rfl z)
      -- slot b
      obtain ⟨_, eb, owb, b1, b2, b3, b4, b5⟩ := r1a
      cases eb
      have Mb := Ma.set (v := .ref hh1) (c := .o dh1) (notP_set (fun _ z => nomatch z) nb) ⟨hh1, rfl, owb⟩ (fun _ z => nomatch z) (fun d'' q e1 e2 => by
        cases e2
        exact ⟨b1, b2, b3, b4, fun j c' d' _ z1 z2 => b5 j c' d' z1 z2⟩)
      have r2b := HR.after_set (c := .o dh1) (v := .ref hh1) (i := b) (by rw [List.length_set]; omega) r2a (ns _) (fun _ q _ e _ z => by cases e; cases z; exact ne rfl)
      -- slot c
      have Mc := Mb.set (v := x2) (c := .g dx2) (notP_set (fun _ z => nomatch z) (notP_set (fun _ z => nomatch z) nc)) (Rep.tr (Tr.same s5) rx2) (fun _ z => nomatch z) (fun _ _ z => nomatch z)
      have r2c := HR.after_set (c := .g dx2) (v := x2) (i := c) (by rw [List.length_set, List.length_set]; omega) r2b (ns _) (fun _ _ _ _ z => absurd rfl z)
      -- slot d
      obtain ⟨_, ed, owd, c1, c2, c3, c4, c5⟩ := r2c
      cases ed
      have Md := Mc.set (v := .ref hh2) (c := .o dh2) (notP_set (fun _ z => nomatch z) (notP_set (fun _ z => nomatch z) (notP_set (fun _ z => nomatch z) nd))) ⟨hh2, rfl, owd⟩ (fun _ z => nomatch z) (fun d'' q e1 e2 => by
        cases e2
        exact ⟨c1, c2, c3, c4, fun j c' d' _ z1 z2 => c5 j c' d' z1 z2⟩)
      exact l.nx _ _ _ _ (((s1.trans s2).trans sA)) Md q4
end
end QD

set_option Elab.async false
set_option linter.all false
set_option maxRecDepth 100000
set_option maxHeartbeats 4000000
namespace QD.Ev
open PySem PySem.Spec L2
/-! evaluation of u-terms by simp: what follows is a named closure, so that simp meets no binder -/
def oE {α : Type} (o : Option α) (P : α → Prop) : Prop := ∃ x, o = some x ∧ P x
@[simp] theorem oE_some {α : Type} {x : α} {P : α → Prop} : oE (some x) P = P x := by simp [oE]
@[simp] theorem oE_none {α : Type} {P : α → Prop} : oE none P = False := by simp [oE]
theorem ex3 {α β γ : Type} {o1 : Option α} {o2 : Option β} {f : α → β → Option γ} {P : γ → Prop} : (∃ x y d, o1 = some x ∧ o2 = some y ∧ f x y = some d ∧ P d) = oE o1 fun x => oE o2 fun y => oE (f x y) P := by
  apply propext; constructor
  · rintro ⟨x, y, d, h1, h2, h3, h4⟩; exact ⟨x, h1, y, h2, d, h3, h4⟩
  · rintro ⟨x, h1, y, h2, d, h3, h4⟩; exact ⟨x, y, d, h1, h2, h3, h4⟩
theorem ex2 {α γ : Type} {o1 : Option α} {f : α → Option γ} {P : γ → Prop} : (∃ x d, o1 = some x ∧ f x = some d ∧ P d) = oE o1 fun x => oE (f x) P := by
  apply propext; constructor
  · rintro ⟨x, d, h1, h3, h4⟩; exact ⟨x, h1, d, h3, h4⟩
  · rintro ⟨x, h1, d, h3, h4⟩; exact ⟨x, d, h1, h3, h4⟩
section get
variable {L : Env'} {d x : D} {i : Nat}
@[simp] theorem get_g : A.get L (.g d) = some d := rfl
@[simp] theorem get_b : A.get L (.b d) = some d := rfl
@[simp] theorem get_f : A.get L (.f d) = some d := rfl
@[simp] theorem get_sl : A.get L (.sl i) = ownAt L i := rfl
@[simp] theorem vg_g : A.vg L (.g d) = some d := rfl
@[simp] theorem vg_b : A.vg L (.b d) = if d.shallow = true then some d else none := rfl
@[simp] theorem vg_f : A.vg L (.f d) = some d := rfl
@[simp] theorem vg_sl : A.vg L (.sl i) = ownAt L i := rfl
def ownC : Option (Option C) → Option D
  | some (some c) => c.own
  | _ => none
@[simp] theorem ownAt_eq : ownAt L i = ownC (L[i]?) := rfl
@[simp] theorem ownC_o : ownC (some (some (.o d))) = some d := rfl
@[simp] theorem ownC_p : ownC (some (some (.p d))) = some d := rfl
@[simp] theorem el_g : A.el (.g x) d = .g d := rfl
@[simp] theorem el_f : A.el (.f x) d = .g d := rfl
@[simp] theorem el_sl : A.el (.sl i) d = .g d := rfl
@[simp] theorem el_b : A.el (.b x) d = if d.flat = true then .g d else .b d := rfl
@[simp] theorem flat_int {j : Int} : D.flat (.int j) = true := rfl
@[simp] theorem flat_bl {j : Bool} : D.flat (.bl j) = true := rfl
@[simp] theorem flat_str {j : Str} : D.flat (.str j) = true := rfl
@[simp] theorem flat_non : D.flat .non = true := rfl
@[simp] theorem flat_lst {j : List D} : D.flat (.lst j) = false := rfl
@[simp] theorem flat_tup {j : List D} : D.flat (.tup j) = false := rfl
@[simp] theorem flat_dic {j : List (Key × D)} : D.flat (.dic j) = false := rfl
@[simp] theorem flat_ins {C : Addr} {j : List (Str × D)} : D.flat (.ins C j) = false := rfl
@[simp] theorem frz_g : frzA (.g d) = .g d := rfl
@[simp] theorem frz_f : frzA (.f d) = .g d := rfl
@[simp] theorem frz_b : frzA (.b d) = .b d := rfl
@[simp] theorem frz_sl : frzA (.sl i) = .sl i := rfl
@[simp] theorem rA_s : rA (.s d) = .g d := rfl
@[simp] theorem rA_o : rA (.o d) = .f d := rfl
end get
abbrev KE' := Env' → A → Prop
abbrev KT' := Env' → Bool → Prop
section k
variable {XQ : XP} {L : Env'} {QD : KE'} {QT : KT'} {QA : Env' → List A → Prop} {a b : A} {d x : D} {i n : Nat} {u ua ub w1 w2 : UE} {ut uw : UT} {w : UA} {fn1 : D → Option D} {fn2 : D → D → Option D} {fnl : List D → Option D} {DD : ED} {us us2 : US} {as : List A} {ds : List D} {bb : Bool}
-- ends
def kG (QD : KE') (L : Env') (d : D) : Prop := QD L (.g d)
@[simp] theorem e_kG : kG QD L d = QD L (.g d) := rfl
def kF (QD : KE') (L : Env') (d : D) : Prop := QD L (.f d)
@[simp] theorem e_kF : kF QD L d = QD L (.f d) := rfl
def kEl (a : A) (QD : KE') (L : Env') (d : D) : Prop := QD L (a.el d)
@[simp] theorem e_kEl : kEl a QD L d = QD L (a.el d) := rfl
-- names, constants
def varK (QD : KE') (L : Env') (i : Nat) : Option (Option C) → Prop
  | some (some (.g d)) => QD L (.g d)
  | some (some (.b d)) => QD L (.b d)
  | some (some (.o _)) => QD L (.sl i)
  | some (some (.p _)) => QD L (.sl i)
  | _ => False
@[simp] theorem e_uVar : uVar i XQ L QD = varK QD L i (L[i]?) := rfl
@[simp] theorem e_varg : varK QD L i (some (some (.g d))) = QD L (.g d) := rfl
@[simp] theorem e_varb : varK QD L i (some (some (.b d))) = QD L (.b d) := rfl
@[simp] theorem e_varo : varK QD L i (some (some (.o d))) = QD L (.sl i) := rfl
@[simp] theorem e_varp : varK QD L i (some (some (.p d))) = QD L (.sl i) := rfl
@[simp] theorem e_uC : uC d XQ L QD = QD L (.g d) := rfl
-- a two-place step: o1 o2 values, the end
def k2c (fn : D → D → Option D) (P : D → Prop) (x y : D) : Prop := oE (fn x y) P
def k2b (fn : D → D → Option D) (P : D → Prop) (o2 : Option D) (x : D) : Prop := oE o2 (k2c fn P x)
@[simp] theorem e_k2c {fn : D → D → Option D} {P : D → Prop} {x y : D} : k2c fn P x y = oE (fn x y) P := rfl
@[simp] theorem e_k2b {fn : D → D → Option D} {P : D → Prop} {o2 : Option D} {x : D} : k2b fn P o2 x = oE o2 (k2c fn P x) := rfl
def kS2b (fn : D → D → Option D) (a : A) (QD : KE') : KE' := fun L b => oE (a.get L) (k2b fn (kG QD L) (b.get L))
def kS2 (fn : D → D → Option D) (ub : UE) (XQ : XP) (QD : KE') : KE' := fun L a => ub XQ L (kS2b fn a QD)
@[simp] theorem e_uS2 : uS2 fn2 ua ub XQ L QD = ua XQ L (kS2 fn2 ub XQ QD) := by
  have : kS2 fn2 ub XQ QD = fun L1 a => ub XQ L1 fun L2 b => ∃ x y d, a.get L2 = some x ∧ b.get L2 = some y ∧ fn2 x y = some d ∧ QD L2 (.g d) := by
    funext L1 a
    have : kS2b fn2 a QD = fun L2 b => ∃ x y d, a.get L2 = some x ∧ b.get L2 = some y ∧ fn2 x y = some d ∧ QD L2 (.g d) := by
      funext L2 b
      exact (ex3 (P := fun d => QD L2 (.g d))).symm
    show ub XQ L1 (kS2b fn2 a QD) = _
    rw [this]
  rw [this]; rfl
@[simp] theorem e_kS2 : kS2 fn2 ub XQ QD L a = ub XQ L (kS2b fn2 a QD) := rfl
@[simp] theorem e_kS2b : kS2b fn2 a QD L b = oE (a.get L) (k2b fn2 (kG QD L) (b.get L)) := rfl
def kF2b (fn : D → D → Option D) (a : A) (QD : KE') : KE' := fun L b => oE (a.vg L) (k2b fn (kF QD L) (b.vg L))
def kF2 (fn : D → D → Option D) (ub : UE) (XQ : XP) (QD : KE') : KE' := fun L a => ub XQ L (kF2b fn a QD)
@[simp] theorem e_uF2 : uF2 fn2 ua ub XQ L QD = ua XQ L (kF2 fn2 ub XQ QD) := by
  have : kF2 fn2 ub XQ QD = fun L1 a => ub XQ L1 fun L2 b => ∃ x y d, a.vg L2 = some x ∧ b.vg L2 = some y ∧ fn2 x y = some d ∧ QD L2 (.f d) := by
    funext L1 a
    have : kF2b fn2 a QD = fun L2 b => ∃ x y d, a.vg L2 = some x ∧ b.vg L2 = some y ∧ fn2 x y = some d ∧ QD L2 (.f d) := by
      funext L2 b
      exact (ex3 (P := fun d => QD L2 (.f d))).symm
    show ub XQ L1 (kF2b fn2 a QD) = _
    rw [this]
  rw [this]; rfl
@[simp] theorem e_kF2 : kF2 fn2 ub XQ QD L a = ub XQ L (kF2b fn2 a QD) := rfl
@[simp] theorem e_kF2b : kF2b fn2 a QD L b = oE (a.vg L) (k2b fn2 (kF QD L) (b.vg L)) := rfl
def kE2b (fn : D → D → Option D) (a : A) (QD : KE') : KE' := fun L b => oE (a.get L) (k2b fn (kEl a QD L) (b.get L))
def kE2' (fn : D → D → Option D) (ub : UE) (XQ : XP) (QD : KE') : KE' := fun L a => ub XQ L (kE2b fn a QD)
@[simp] theorem e_uE2 : uE2 fn2 ua ub XQ L QD = ua XQ L (kE2' fn2 ub XQ QD) := by
  have : kE2' fn2 ub XQ QD = fun L1 a => ub XQ L1 fun L2 b => ∃ x y d, a.get L2 = some x ∧ b.get L2 = some y ∧ fn2 x y = some d ∧ QD L2 (a.el d) := by
    funext L1 a
    have : kE2b fn2 a QD = fun L2 b => ∃ x y d, a.get L2 = some x ∧ b.get L2 = some y ∧ fn2 x y = some d ∧ QD L2 (a.el d) := by
      funext L2 b
      exact (ex3 (P := fun d => QD L2 (a.el d))).symm
    show ub XQ L1 (kE2b fn2 a QD) = _
    rw [this]
  rw [this]; rfl
@[simp] theorem e_kE2 : kE2' fn2 ub XQ QD L a = ub XQ L (kE2b fn2 a QD) := rfl
@[simp] theorem e_kE2b : kE2b fn2 a QD L b = oE (a.get L) (k2b fn2 (kEl a QD L) (b.get L)) := rfl
-- one place
def k1 (fn : D → Option D) (P : D → Prop) (x : D) : Prop := oE (fn x) P
@[simp] theorem e_k1 {P : D → Prop} : k1 fn1 P x = oE (fn1 x) P := rfl
def kS1 (fn : D → Option D) (QD : KE') : KE' := fun L a => oE (a.get L) (k1 fn (kG QD L))
@[simp] theorem e_uS1 : uS1 fn1 ua XQ L QD = ua XQ L (kS1 fn1 QD) := by
  have : kS1 fn1 QD = fun L a => ∃ x d, a.get L = some x ∧ fn1 x = some d ∧ QD L (.g d) := by funext L a; exact (ex2 (P := fun d => QD L (.g d))).symm
  rw [this]; rfl
@[simp] theorem e_kS1 : kS1 fn1 QD L a = oE (a.get L) (k1 fn1 (kG QD L)) := rfl
def kF1 (fn : D → Option D) (QD : KE') : KE' := fun L a => oE (a.vg L) (k1 fn (kF QD L))
@[simp] theorem e_uF1 : uF1 fn1 ua XQ L QD = ua XQ L (kF1 fn1 QD) := by
  have : kF1 fn1 QD = fun L a => ∃ x d, a.vg L = some x ∧ fn1 x = some d ∧ QD L (.f d) := by funext L a; exact (ex2 (P := fun d => QD L (.f d))).symm
  rw [this]; rfl
@[simp] theorem e_kF1 : kF1 fn1 QD L a = oE (a.vg L) (k1 fn1 (kF QD L)) := rfl
def kIs1 (fn : List D → Option D) (P : D → Prop) (x : D) : Prop := oE (fn [x]) P
@[simp] theorem e_kIs1 {P : D → Prop} : kIs1 fnl P x = oE (fnl [x]) P := rfl
def kIs (fn : List D → Option D) (QD : KE') : KE' := fun L a => oE (a.get L) (kIs1 fn (kG QD L))
@[simp] theorem e_uIs : uIs fnl ua XQ L QD = ua XQ L (kIs fnl QD) := by
  have : kIs fnl QD = fun L a => ∃ x d, a.get L = some x ∧ fnl [x] = some d ∧ QD L (.g d) := by funext L a; exact (ex2 (f := fun x => fnl [x]) (P := fun d => QD L (.g d))).symm
  rw [this]; rfl
@[simp] theorem e_kIs : kIs fnl QD L a = oE (a.get L) (kIs1 fnl (kG QD L)) := rfl
-- bools
def oBl (o : Option D) (P : Bool → Prop) : Prop := ∃ b, o = some (.bl b) ∧ P b
@[simp] theorem oBl_bl {P : Bool → Prop} : oBl (some (.bl bb)) P = P bb := by
  apply propext; constructor
  · rintro ⟨b, h, q⟩; cases h; exact q
  · intro h; exact ⟨bb, rfl, h⟩
def kB (QT : KT') : KE' := fun L a => oBl (a.get L) (QT L)
@[simp] theorem e_uB : uB u XQ L QT = u XQ L (kB QT) := rfl
@[simp] theorem e_kB : kB QT L a = oBl (a.get L) (QT L) := rfl
def kNot (QT : KT') : KT' := fun L b => QT L (!b)
@[simp] theorem e_uNot : uNot ut XQ L QT = ut XQ L (kNot QT) := rfl
@[simp] theorem e_kNot : kNot QT L bb = QT L (!bb) := rfl
def kAnd (w : UT) (XQ : XP) (QT : KT') : KT' := fun L b => if b = true then w XQ L QT else QT L false
@[simp] theorem e_uAnd : uAnd ut uw XQ L QT = ut XQ L (kAnd uw XQ QT) := rfl
@[simp] theorem e_kAnd : kAnd uw XQ QT L bb = if bb = true then uw XQ L QT else QT L false := rfl
def kOr (w : UT) (XQ : XP) (QT : KT') : KT' := fun L b => if b = true then QT L true else w XQ L QT
@[simp] theorem e_uOr : uOr ut uw XQ L QT = ut XQ L (kOr uw XQ QT) := rfl
@[simp] theorem e_kOr : kOr uw XQ QT L bb = if bb = true then QT L true else uw XQ L QT := rfl
def kIf (w1 w2 : UE) (XQ : XP) (QD : KE') : KT' := fun L b => if b = true then w1 XQ L QD else w2 XQ L QD
@[simp] theorem e_uIf : uIf ut w1 w2 XQ L QD = ut XQ L (kIf w1 w2 XQ QD) := rfl
@[simp] theorem e_kIf : kIf w1 w2 XQ QD L bb = if bb = true then w1 XQ L QD else w2 XQ L QD := rfl
def kAndV2 (w : UE) (XQ : XP) (QD : KE') (L : Env') (b : Bool) : Prop := if b = true then w XQ L QD else QD L (.g (.bl false))
def kAndV (w : UE) (XQ : XP) (QD : KE') : KE' := fun L a => oBl (a.get L) (kAndV2 w XQ QD L)
@[simp] theorem e_uAndV : uAndV ua ub XQ L QD = ua XQ L (kAndV ub XQ QD) := rfl
@[simp] theorem e_kAndV : kAndV ub XQ QD L a = oBl (a.get L) (kAndV2 ub XQ QD L) := rfl
@[simp] theorem e_kAndV2 : kAndV2 ub XQ QD L bb = if bb = true then ub XQ L QD else QD L (.g (.bl false)) := rfl
def kOrV2 (w : UE) (XQ : XP) (QD : KE') (L : Env') (b : Bool) : Prop := if b = true then QD L (.g (.bl true)) else w XQ L QD
def kOrV (w : UE) (XQ : XP) (QD : KE') : KE' := fun L a => oBl (a.get L) (kOrV2 w XQ QD L)
@[simp] theorem e_uOrV : uOrV ua ub XQ L QD = ua XQ L (kOrV ub XQ QD) := rfl
@[simp] theorem e_kOrV : kOrV ub XQ QD L a = oBl (a.get L) (kOrV2 ub XQ QD L) := rfl
@[simp] theorem e_kOrV2 : kOrV2 ub XQ QD L bb = if bb = true then QD L (.g (.bl true)) else ub XQ L QD := rfl
def kNotV2 (QD : KE') (L : Env') (b : Bool) : Prop := QD L (.g (.bl (!b)))
def kNotV (QD : KE') : KE' := fun L a => oBl (a.get L) (kNotV2 QD L)
@[simp] theorem e_uNotV : uNotV ua XQ L QD = ua XQ L (kNotV QD) := rfl
@[simp] theorem e_kNotV : kNotV QD L a = oBl (a.get L) (kNotV2 QD L) := rfl
@[simp] theorem e_kNotV2 : kNotV2 QD L bb = QD L (.g (.bl (!bb))) := rfl
-- operands
@[simp] theorem e_uNil : uNil XQ L QA = QA L [] := rfl
def kC2 (a : A) (QA : Env' → List A → Prop) (L : Env') (as : List A) : Prop := QA L (a :: as)
def kC1 (w : UA) (XQ : XP) (QA : Env' → List A → Prop) : KE' := fun L a => w XQ L (kC2 a QA)
@[simp] theorem e_uCons : uCons u w XQ L QA = u XQ L (kC1 w XQ QA) := rfl
@[simp] theorem e_kC1 : kC1 w XQ QA L a = w XQ L (kC2 a QA) := rfl
@[simp] theorem e_kC2 : kC2 a QA L as = QA L (a :: as) := rfl
def consO : Option D → Option (List D) → Option (List D)
  | some d, some ds => some (d :: ds)
  | _, _ => none
@[simp] theorem consO_some : consO (some d) (some ds) = some (d :: ds) := rfl
@[simp] theorem getAll_nil : getAll L [] = some [] := rfl
@[simp] theorem getAll_cons : getAll L (a :: as) = consO (a.get L) (getAll L as) := by
  unfold consO; show (match a.get L, getAll L as with | some d, some ds => some (d :: ds) | _, _ => none) = _; rfl
@[simp] theorem vgAll_nil : vgAll L [] = some [] := rfl
@[simp] theorem vgAll_cons : vgAll L (a :: as) = consO (a.vg L) (vgAll L as) := by
  unfold consO; show (match a.vg L, vgAll L as with | some d, some ds => some (d :: ds) | _, _ => none) = _; rfl
@[simp] theorem allG_nil : allG [] = some [] := rfl
@[simp] theorem allG_g : allG (.g d :: as) = consO (some d) (allG as) := by
  show (allG as).map (d :: ·) = _; cases allG as <;> rfl
@[simp] theorem allG_b : allG (.b d :: as) = if d.flat = true then consO (some d) (allG as) else none := by
  show (if d.flat = true then (allG as).map (d :: ·) else none) = _; cases allG as <;> rfl
def kl (fn : List D → Option D) (P : D → Prop) (ds : List D) : Prop := oE (fn ds) P
@[simp] theorem e_kl {P : D → Prop} : kl fnl P ds = oE (fnl ds) P := rfl
def kSn (fn : List D → Option D) (QD : KE') (L : Env') (as : List A) : Prop := oE (getAll L as) (kl fn (kG QD L))
@[simp] theorem e_uSn : uSn fnl w XQ L QD = w XQ L (kSn fnl QD) := by
  have : kSn fnl QD = fun L as => ∃ ds d, getAll L as = some ds ∧ fnl ds = some d ∧ QD L (.g d) := by funext L as; exact (ex2 (P := fun d => QD L (.g d))).symm
  rw [this]; rfl
@[simp] theorem e_kSn : kSn fnl QD L as = oE (getAll L as) (kl fnl (kG QD L)) := rfl
def kFn (fn : List D → Option D) (QD : KE') (L : Env') (as : List A) : Prop := oE (vgAll L as) (kl fn (kF QD L))
@[simp] theorem e_uFn : uFn fnl w XQ L QD = w XQ L (kFn fnl QD) := by
  have : kFn fnl QD = fun L as => ∃ ds d, vgAll L as = some ds ∧ fnl ds = some d ∧ QD L (.f d) := by funext L as; exact (ex2 (P := fun d => QD L (.f d))).symm
  rw [this]; rfl
@[simp] theorem e_kFn : kFn fnl QD L as = oE (vgAll L as) (kl fnl (kF QD L)) := rfl
def kFr2 (fn : List D → (D → Prop) → Prop) (P : D → Prop) (ds : List D) : Prop := fn ds P
def kFr (fn : List D → (D → Prop) → Prop) (QD : KE') (L : Env') (as : List A) : Prop := oE (vgAll L as) (kFr2 fn (kF QD L))
@[simp] theorem e_uFr {fn : List D → (D → Prop) → Prop} : uFr fn w XQ L QD = w XQ L (kFr fn QD) := rfl
@[simp] theorem e_kFr {fn : List D → (D → Prop) → Prop} : kFr fn QD L as = oE (vgAll L as) (kFr2 fn (kF QD L)) := rfl
@[simp] theorem e_kFr2 {fn : List D → (D → Prop) → Prop} {P : D → Prop} : kFr2 fn P ds = fn ds P := rfl
def kR1b (fn : D → (D → Prop) → Prop) (P : D → Prop) (x : D) : Prop := fn x P
def kR1 (fn : D → (D → Prop) → Prop) (QD : KE') : KE' := fun L a => oE (a.vg L) (kR1b fn (kF QD L))
@[simp] theorem e_uR1 {fn : D → (D → Prop) → Prop} : uR1 fn ua XQ L QD = ua XQ L (kR1 fn QD) := rfl
@[simp] theorem e_kR1 {fn : D → (D → Prop) → Prop} : kR1 fn QD L a = oE (a.vg L) (kR1b fn (kF QD L)) := rfl
@[simp] theorem e_kR1b {fn : D → (D → Prop) → Prop} {P : D → Prop} : kR1b fn P x = fn x P := rfl
def kLst2 (QD : KE') (L : Env') (ds : List D) : Prop := ds.length ≤ sizeLine ∧ QD L (.f (.lst ds))
def kLst (QD : KE') (L : Env') (as : List A) : Prop := oE (allG as) (kLst2 QD L)
@[simp] theorem e_uLst : uLst w XQ L QD = w XQ L (kLst QD) := rfl
@[simp] theorem e_kLst : kLst QD L as = oE (allG as) (kLst2 QD L) := rfl
@[simp] theorem e_kLst2 : kLst2 QD L ds = (ds.length ≤ sizeLine ∧ QD L (.f (.lst ds))) := rfl
def kTup2 (QD : KE') (L : Env') (ds : List D) : Prop := ds.length ≤ sizeLine ∧ QD L (.g (.tup ds))
def kTup (QD : KE') (L : Env') (as : List A) : Prop := oE (allG as) (kTup2 QD L)
@[simp] theorem e_uTup : uTup w XQ L QD = w XQ L (kTup QD) := rfl
@[simp] theorem e_kTup : kTup QD L as = oE (allG as) (kTup2 QD L) := rfl
@[simp] theorem e_kTup2 : kTup2 QD L ds = (ds.length ≤ sizeLine ∧ QD L (.g (.tup ds))) := rfl
-- wrappers
def kO (QD : KE') : KE' := fun L a => QD L (frzA a)
@[simp] theorem e_uO : uO u XQ L QD = u XQ L (kO QD) := rfl
@[simp] theorem e_kO : kO QD L a = QD L (frzA a) := rfl
variable {Qd : Env' → D → Prop}
def kEsc (Qd : Env' → D → Prop) : KE' := fun L a => esc L Qd a
@[simp] theorem e_uG : uG u XQ L Qd = u XQ L (kEsc Qd) := rfl
def escC (Qd : Env' → D → Prop) (L : Env') (i : Nat) : Option (Option C) → Prop
  | some (some (.o d)) => Qd (L.set i (some (.g d))) d
  | _ => False
@[simp] theorem e_kEscg : kEsc Qd L (.g d) = Qd L d := rfl
@[simp] theorem e_kEscf : kEsc Qd L (.f d) = Qd L d := rfl
@[simp] theorem e_kEscb : kEsc Qd L (.b d) = (d.flat = true ∧ Qd L d) := rfl
@[simp] theorem e_kEscs : kEsc Qd L (.sl i) = escC Qd L i (L[i]?) := rfl
@[simp] theorem e_escC : escC Qd L i (some (some (.o d))) = Qd (L.set i (some (.g d))) d := rfl
def kGO (QD : KE') : Env' → D → Prop := fun L d => QD L (.g d)
@[simp] theorem e_uGO : uGO u XQ L QD = uG u XQ L (kGO QD) := rfl
@[simp] theorem e_kGO : kGO QD L d = QD L (.g d) := rfl
def kEsA (QD : KE') : KE' := fun L a => escA L QD a
def escAC (QD : KE') (L : Env') (i : Nat) : Option (Option C) → Prop
  | some (some (.o d)) => QD (L.set i (some (.g d))) (.g d)
  | _ => False
@[simp] theorem e_uEsc : uEsc u XQ L QD = u XQ L (kEsA QD) := rfl
@[simp] theorem e_kEsAg : kEsA QD L (.g d) = QD L (.g d) := rfl
@[simp] theorem e_kEsAf : kEsA QD L (.f d) = QD L (.g d) := rfl
@[simp] theorem e_kEsAb : kEsA QD L (.b d) = QD L (.b d) := rfl
@[simp] theorem e_kEsAs : kEsA QD L (.sl i) = escAC QD L i (L[i]?) := rfl
@[simp] theorem e_escAC : escAC QD L i (some (some (.o d))) = QD (L.set i (some (.g d))) (.g d) := rfl
-- statements
@[simp] theorem e_uNext : uNext XQ DD L = DD.nx L := rfl
def seqD (w : US) (XQ : XP) (DD : ED) : ED := { DD with nx := fun L' => w XQ DD L' }
@[simp] theorem e_uSeq : uSeq us us2 XQ DD L = us XQ (seqD us2 XQ DD) L := rfl
@[simp] theorem e_seqnx : (seqD us XQ DD).nx L = us XQ DD L := rfl
@[simp] theorem e_seqrt : (seqD us XQ DD).rt = DD.rt := rfl
@[simp] theorem e_seqbk : (seqD us XQ DD).bk = DD.bk := rfl
@[simp] theorem e_seqct : (seqD us XQ DD).ct = DD.ct := rfl
def kIfS (u w : US) (XQ : XP) (DD : ED) : KT' := fun L b => if b = true then u XQ DD L else w XQ DD L
@[simp] theorem e_uIfS : uIfS ut us us2 XQ DD L = ut XQ L (kIfS us us2 XQ DD) := rfl
@[simp] theorem e_kIfS : kIfS us us2 XQ DD L bb = if bb = true then us XQ DD L else us2 XQ DD L := rfl
def kExpr (DD : ED) : KE' := fun L _ => DD.nx L
@[simp] theorem e_uExpr : uExpr u XQ DD L = u XQ L (kExpr DD) := rfl
@[simp] theorem e_kExpr : kExpr DD L a = DD.nx L := rfl
@[simp] theorem e_uRetN : uRetN XQ DD L = DD.rt L (.s .non) := rfl
def kRet (DD : ED) : KE' := fun L a => retA L (DD.rt L) a
def retC (DD : ED) (L : Env') : Option (Option C) → Prop
  | some (some (.o d)) => DD.rt L (.o d)
  | _ => False
@[simp] theorem e_uRet : uRet u XQ DD L = u XQ L (kRet DD) := rfl
@[simp] theorem e_kRetg : kRet DD L (.g d) = DD.rt L (.s d) := rfl
@[simp] theorem e_kRetf : kRet DD L (.f d) = DD.rt L (.o d) := rfl
@[simp] theorem e_kRetb : kRet DD L (.b d) = (d.flat = true ∧ DD.rt L (.s d)) := rfl
@[simp] theorem e_kRets : kRet DD L (.sl i) = retC DD L (L[i]?) := rfl
@[simp] theorem e_retC : retC DD L (some (some (.o d))) = DD.rt L (.o d) := rfl
@[simp] theorem e_uNever : uNever XQ DD L = False := rfl
@[simp] theorem e_uBreak : uBreak XQ DD L = DD.bk L := rfl
@[simp] theorem e_uCont : uCont XQ DD L = DD.ct L := rfl
def npC : Option (Option C) → Bool
  | some (some (.p _)) => false
  | _ => true
@[simp] theorem e_notP : notP L i = npC (L[i]?) := rfl
@[simp] theorem e_npg : npC (some (some (.g d))) = true := rfl
@[simp] theorem e_npb : npC (some (some (.b d))) = true := rfl
@[simp] theorem e_npo : npC (some (some (.o d))) = true := rfl
@[simp] theorem e_npn : npC (some none) = true := rfl
@[simp] theorem e_npnn : npC none = true := rfl
variable {N : Env' → Prop} {j : Nat}
def setC (L : Env') (i j : Nat) (N : Env' → Prop) : Option (Option C) → Prop
  | some (some (.o d)) => N ((L.set j none).set i (some (.o d)))
  | _ => False
@[simp] theorem e_setAg : setA L i N (.g d) = N (L.set i (some (.g d))) := rfl
@[simp] theorem e_setAb : setA L i N (.b d) = N (L.set i (some (.b d))) := rfl
@[simp] theorem e_setAf : setA L i N (.f d) = N (L.set i (some (.o d))) := rfl
@[simp] theorem e_setAs : setA L i N (.sl j) = setC L i j N (L[j]?) := rfl
@[simp] theorem e_setC : setC L i j N (some (some (.o d))) = N ((L.set j none).set i (some (.o d))) := rfl
def kSet (i : Nat) (DD : ED) : KE' := fun L a => notP L i = true ∧ setA L i DD.nx a
@[simp] theorem e_uSet : uSet i u XQ DD L = u XQ L (kSet i DD) := rfl
@[simp] theorem e_kSet : kSet i DD L a = (notP L i = true ∧ setA L i DD.nx a) := rfl
-- defs
variable {ms : List Md} {QR : R → Prop} {QO : D → R → Prop} {rr : R} {dds : List D} {t : TF} {tO : TFO} {C0 : Addr} {m : Str}
def defD (QR : R → Prop) : ED := { nx := fun _ => QR (.s .non), rt := fun _ r => QR r }
@[simp] theorem e_uDef : uDef ms n us XQ ds QR = us XQ (defD QR) (argL ms ds ++ List.replicate n none) := rfl
@[simp] theorem e_defnx : (defD QR).nx L = QR (.s .non) := rfl
@[simp] theorem e_defrt : (defD QR).rt L rr = QR rr := rfl
def kOO (QO : D → R → Prop) (r : R) (d : D) : Prop := QO d r
@[simp] theorem e_kOO : kOO QO rr d = QO d rr := rfl
def defO (QO : D → R → Prop) : ED := { nx := fun L => ∃ d', ownAt L 0 = some d' ∧ QO d' (.s .non), rt := fun L r => ∃ d', ownAt L 0 = some d' ∧ QO d' r }
@[simp] theorem e_uDefO : uDefO ms n us XQ d ds QO = us XQ (defO QO) (some (.p d) :: (argL ms ds ++ List.replicate n none)) := rfl
@[simp] theorem e_defOnx : (defO QO).nx L = oE (ownAt L 0) (kOO QO (.s .non)) := rfl
@[simp] theorem e_defOrt : (defO QO).rt L rr = oE (ownAt L 0) (kOO QO rr) := rfl
@[simp] theorem e_argLg : argL (.g :: ms) (d :: ds) = some (.g d) :: argL ms ds := rfl
@[simp] theorem e_argLb : argL (.b :: ms) (d :: ds) = some (.b d) :: argL ms ds := rfl
@[simp] theorem e_argL0 : argL [] ds = [] := rfl
@[simp] theorem e_args0 : argsOf L [] [] = some [] := rfl
@[simp] theorem e_argsb : argsOf L (.b :: ms) (a :: as) = consO (a.get L) (argsOf L ms as) := by
  cases a <;> (unfold consO; rfl)
@[simp] theorem e_argsg : argsOf L (.g :: ms) (.g d :: as) = consO (some d) (argsOf L ms as) := by
  show (argsOf L ms as).map (d :: ·) = _; cases argsOf L ms as <;> rfl
@[simp] theorem e_argsgb : argsOf L (.g :: ms) (.b d :: as) = if d.flat = true then consO (some d) (argsOf L ms as) else none := by
  show (if d.flat = true then (argsOf L ms as).map (d :: ·) else none) = _; cases argsOf L ms as <;> rfl
def kRes (QD : KE') (L : Env') (r : R) : Prop := QD L (rA r)
@[simp] theorem e_kRes : kRes QD L rr = QD L (rA rr) := rfl
def kCall2 (t : TF) (dds : List D) (QD : KE') (L : Env') (ds : List D) : Prop := t noX (ds ++ dds) (kRes QD L)
def kCall (ms : List Md) (t : TF) (dds : List D) (QD : KE') (L : Env') (as : List A) : Prop := oE (argsOf L ms as) (kCall2 t dds QD L)
@[simp] theorem e_uCall : uCall ms t dds w XQ L QD = w XQ L (kCall ms t dds QD) := rfl
@[simp] theorem e_kCall : kCall ms t dds QD L as = oE (argsOf L ms as) (kCall2 t dds QD L) := rfl
@[simp] theorem e_kCall2 : kCall2 t dds QD L ds = t noX (ds ++ dds) (kRes QD L) := rfl
def kResO (i : Nat) (QD : KE') (L : Env') (d : D) (r : R) : Prop := QD (putO L i d) (rA r)
@[simp] theorem e_kResO : kResO i QD L d rr = QD (putO L i d) (rA rr) := rfl
def kCO2 (t : TFO) (i : Nat) (QD : KE') (L : Env') (dds ds : List D) (d0 : D) : Prop := t noX d0 (ds ++ dds) (kResO i QD L)
def kCO1 (t : TFO) (i : Nat) (dds : List D) (QD : KE') (L : Env') (ds : List D) : Prop := oE (ownAt L i) (kCO2 t i QD L dds ds)
def kCO (i : Nat) (ms : List Md) (t : TFO) (dds : List D) (QD : KE') (L : Env') (as : List A) : Prop := ∃ as' d0 ds, as = .sl i :: as' ∧ ownAt L i = some d0 ∧ as'.all (notSl i) = true ∧ argsOf L ms as' = some ds ∧ t noX d0 (ds ++ dds) fun d' r => QD (putO L i d') (rA r)
@[simp] theorem e_uCallO : uCallO i ms tO dds w XQ L QD = w XQ L (kCO i ms tO dds QD) := rfl
@[simp] theorem e_kCO : kCO i ms tO dds QD L (.sl i :: as) = (as.all (notSl i) = true ∧ oE (argsOf L ms as) (kCO1 tO i dds QD L)) := by
  apply propext; constructor
  · rintro ⟨as', d0, ds, e, h1, h2, h3, h4⟩; cases e; exact ⟨h2, ds, h3, d0, h1, h4⟩
  · rintro ⟨h2, ds, h3, d0, h1, h4⟩; exact ⟨as, d0, ds, rfl, h1, h2, h3, h4⟩
@[simp] theorem e_kCO1 : kCO1 tO i dds QD L ds = oE (ownAt L i) (kCO2 tO i QD L dds ds) := rfl
@[simp] theorem e_kCO2 : kCO2 tO i QD L dds ds d = tO noX d (ds ++ dds) (kResO i QD L) := rfl
@[simp] theorem e_notSlg : notSl i (.g d) = true := rfl
@[simp] theorem e_notSlb : notSl i (.b d) = true := rfl
@[simp] theorem e_notSls : notSl i (.sl j) = decide (j ≠ i) := rfl
def kMk (QD : KE') (L : Env') (d : D) (r : R) : Prop := r = .s .non ∧ QD L (.f d)
@[simp] theorem e_kMk : kMk QD L d (.s .non) = QD L (.f d) := by unfold kMk; simp
def kMake2 (C : Addr) (t : TFO) (dds : List D) (QD : KE') (L : Env') (ds : List D) : Prop := t noX (.ins C []) (ds ++ dds) (kMk QD L)
def kMake (C : Addr) (ms : List Md) (t : TFO) (dds : List D) (QD : KE') (L : Env') (as : List A) : Prop := oE (argsOf L ms as) (kMake2 C t dds QD L)
@[simp] theorem e_uMake : uMake C0 ms tO dds w XQ L QD = w XQ L (kMake C0 ms tO dds QD) := rfl
@[simp] theorem e_kMake : kMake C0 ms tO dds QD L as = oE (argsOf L ms as) (kMake2 C0 tO dds QD L) := rfl
@[simp] theorem e_kMake2 : kMake2 C0 tO dds QD L ds = tO noX (.ins C0 []) (ds ++ dds) (kMk QD L) := rfl
def insO (C : Addr) (m : Str) (o : Option D) : Prop := ∃ fs, o = some (.ins C fs) ∧ fs.lookup m = none
@[simp] theorem e_insAt : insAt C0 L a m = insO C0 m (a.get L) := rfl
@[simp] theorem e_insO {fs : List (Str × D)} : insO C0 m (some (.ins C0 fs)) = (fs.lookup m = none) := by unfold insO; simp
def kM2 (ms : List Md) (t : TF) (dds : List D) (QD : KE') (a : A) (L : Env') (as : List A) : Prop := oE (argsOf L ms (a :: as)) (kCall2 t dds QD L)
def kM1 (C : Addr) (m : Str) (ms : List Md) (t : TF) (dds : List D) (w : UA) (XQ : XP) (QD : KE') : KE' := fun L a => insAt C L a m ∧ w XQ L (kM2 ms t dds QD a)
@[simp] theorem e_uMeth : uMeth C0 m ms t dds u w XQ L QD = u XQ L (kM1 C0 m ms t dds w XQ QD) := rfl
@[simp] theorem e_kM1 : kM1 C0 m ms t dds w XQ QD L a = (insAt C0 L a m ∧ w XQ L (kM2 ms t dds QD a)) := rfl
@[simp] theorem e_kM2 : kM2 ms t dds QD a L as = oE (argsOf L ms (a :: as)) (kCall2 t dds QD L) := rfl
def isIns (C : Addr) (o : Option D) : Prop := ∃ fs, o = some (.ins C fs)
@[simp] theorem e_isIns {fs : List (Str × D)} : isIns C0 (some (.ins C0 fs)) = True := by unfold isIns; simp
def kProp (C : Addr) (ms : List Md) (t : TF) (dds : List D) (QD : KE') : KE' := fun L a => isIns C (a.get L) ∧ oE (argsOf L ms [a]) (kCall2 t dds QD L)
@[simp] theorem e_uProp : uProp C0 ms t dds u XQ L QD = u XQ L (kProp C0 ms t dds QD) := rfl
@[simp] theorem e_kProp : kProp C0 ms t dds QD L a = (isIns C0 (a.get L) ∧ oE (argsOf L ms [a]) (kCall2 t dds QD L)) := rfl
def putC (L : Env') (i : Nat) (d : D) : Option (Option C) → Env'
  | some (some c) => L.set i (some (c.put d))
  | _ => L
@[simp] theorem e_putO : putO L i d = putC L i d (L[i]?) := rfl
@[simp] theorem e_putCo : putC L i d (some (some (.o x))) = L.set i (some (.o d)) := rfl
@[simp] theorem e_putCp : putC L i d (some (some (.p x))) = L.set i (some (.p d)) := rfl
-- targets
variable {wt : UTg} {ws : UTgs}
def gNC (L : Env') (i : Nat) (N : Env' → Prop) : A → Prop
  | .g d => N (L.set i (some (.g d)))
  | .b d => N (L.set i (some (.b d)))
  | _ => False
@[simp] theorem e_gN : gN i L a N = (notP L i = true ∧ gNC L i N a) := by cases a <;> rfl
@[simp] theorem e_gNg : gNC L i N (.g d) = N (L.set i (some (.g d))) := rfl
@[simp] theorem e_gNb : gNC L i N (.b d) = N (L.set i (some (.b d))) := rfl
def tupO (o : Option D) (P : List D → Prop) : Prop := ∃ ds, o = some (.tup ds) ∧ P ds
@[simp] theorem tupO_tup {P : List D → Prop} : tupO (some (.tup ds)) P = P ds := by
  apply propext; constructor
  · rintro ⟨b, h, q⟩; cases h; exact q
  · intro h; exact ⟨ds, rfl, h⟩
def kGT (w : UTgs) (n : Nat) (a : A) (L : Env') (N : Env' → Prop) (ds : List D) : Prop := ds.length = n ∧ w L (ds.map a.el) N
@[simp] theorem e_gT : gT ws n L a N = tupO (a.get L) (kGT ws n a L N) := rfl
@[simp] theorem e_kGT : kGT ws n a L N ds = (ds.length = n ∧ ws L (ds.map a.el) N) := rfl
def kGs (ws : UTgs) (as : List A) (N : Env' → Prop) : Env' → Prop := fun L => ws L as N
@[simp] theorem e_gsCons : gsCons wt ws L (a :: as) N = wt L a (kGs ws as N) := by
  apply propext; constructor
  · rintro ⟨a', as', e, h⟩; cases e; exact h
  · intro h; exact ⟨a, as, rfl, h⟩
@[simp] theorem e_kGs : kGs ws as N L = ws L as N := rfl
@[simp] theorem e_gsNil : gsNil L [] N = N L := by
  apply propext; constructor
  · rintro ⟨_, h⟩; exact h
  · intro h; exact ⟨rfl, h⟩
-- loops
variable {wi : UI} {ue : UG} {vs : List Nat} {Qc : Env' → List D → Prop}
def kFor (wt : UTg) (ub : US) (XQ : XP) (DD : ED) (L : Env') (as : List A) : Prop := uLoop wt ub XQ DD as L
@[simp] theorem e_uFor : uFor wi wt us XQ DD L = wi XQ L (kFor wt us XQ DD) := rfl
@[simp] theorem e_kFor : kFor wt us XQ DD L as = uLoop wt us XQ DD as L := rfl
def loopD (N : Env' → Prop) (DD : ED) : ED := { nx := N, ct := N, bk := DD.nx, rt := DD.rt }
@[simp] theorem e_lpnx : (loopD N DD).nx = N := rfl
@[simp] theorem e_lpct : (loopD N DD).ct = N := rfl
@[simp] theorem e_lpbk : (loopD N DD).bk = DD.nx := rfl
@[simp] theorem e_lprt : (loopD N DD).rt = DD.rt := rfl
def kLp (us : US) (XQ : XP) (N : Env' → Prop) (DD : ED) : Env' → Prop := fun L => us XQ (loopD N DD) L
@[simp] theorem e_kLp : kLp us XQ N DD L = us XQ (loopD N DD) L := rfl
theorem e_loop0 : uLoop wt us XQ DD [] L = DD.nx L := rfl
theorem e_loop1 : uLoop wt us XQ DD (a :: as) L = wt L a (kLp us XQ (uLoop wt us XQ DD as) DD) := rfl
@[simp] theorem e_uYes : uYes XQ L QT = QT L true := rfl
def kCpE (L : Env') (vs : List Nat) (QD : KE') : Env' → List D → Prop := fun L2 ds => QD (restL L L2 vs) (.f (.lst ds))
@[simp] theorem e_kCpE {L2 : Env'} : kCpE L vs QD L2 ds = QD (restL L L2 vs) (.f (.lst ds)) := rfl
def kCp (wt : UTg) (ut : UT) (ue : UG) (vs : List Nat) (XQ : XP) (QD : KE') (L : Env') (as : List A) : Prop := vs.all (notP L) = true ∧ uCompI wt ut ue vs XQ as [] (wipeL L vs) (kCpE L vs QD)
@[simp] theorem e_uComp : uComp wi wt ut ue vs XQ L QD = wi XQ L (kCp wt ut ue vs XQ QD) := rfl
@[simp] theorem e_kCp : kCp wt ut ue vs XQ QD L as = (vs.all (notP L) = true ∧ uCompI wt ut ue vs XQ as [] (wipeL L vs) (kCpE L vs QD)) := rfl
def kCI3 (vs : List Nat) (acc : List D) (K : List D → Env' → Prop) (L : Env') (d : D) : Prop := acc.length < sizeLine ∧ K (acc ++ [d]) (wipeL L vs)
def kCI2 (ue : UG) (vs : List Nat) (XQ : XP) (acc : List D) (K : List D → Env' → Prop) : KT' := fun L b => if b = true then ue XQ L (kCI3 vs acc K) else K acc (wipeL L vs)
def kCI1 (ut : UT) (ue : UG) (vs : List Nat) (XQ : XP) (acc : List D) (K : List D → Env' → Prop) : Env' → Prop := fun L => ut XQ L (kCI2 ue vs XQ acc K)
def kCI0 (wt : UTg) (ut : UT) (ue : UG) (vs : List Nat) (XQ : XP) (as : List A) (Qc : Env' → List D → Prop) (acc : List D) (L : Env') : Prop := uCompI wt ut ue vs XQ as acc L Qc
variable {acc : List D} {Kc : List D → Env' → Prop}
theorem e_ci0 : uCompI wt ut ue vs XQ [] acc L Qc = Qc L acc := rfl
theorem e_ci1 : uCompI wt ut ue vs XQ (a :: as) acc L Qc = wt L a (kCI1 ut ue vs XQ acc (kCI0 wt ut ue vs XQ as Qc)) := rfl
@[simp] theorem e_kCI1 : kCI1 ut ue vs XQ acc Kc L = ut XQ L (kCI2 ue vs XQ acc Kc) := rfl
@[simp] theorem e_kCI2 : kCI2 ue vs XQ acc Kc L bb = if bb = true then ue XQ L (kCI3 vs acc Kc) else Kc acc (wipeL L vs) := rfl
@[simp] theorem e_kCI3 : kCI3 vs acc Kc L d = (acc.length < sizeLine ∧ Kc (acc ++ [d]) (wipeL L vs)) := rfl
@[simp] theorem e_kCI0 : kCI0 wt ut ue vs XQ as Qc acc L = uCompI wt ut ue vs XQ as acc L Qc := rfl
@[simp] theorem e_wipe0 : wipeL L [] = L := rfl
@[simp] theorem e_wipe1 : wipeL L (i :: vs) = (wipeL L vs).set i none := rfl
def kpC : Option (Option C) → Option C
  | some (some (.g d)) => some (.g d)
  | some (some (.b d)) => some (.b d)
  | _ => none
@[simp] theorem e_keep : keepC L i = kpC (L[i]?) := rfl
@[simp] theorem e_kpg : kpC (some (some (.g d))) = some (.g d) := rfl
@[simp] theorem e_kpb : kpC (some (some (.b d))) = some (.b d) := rfl
@[simp] theorem e_kpo : kpC (some (some (.o d))) = none := rfl
@[simp] theorem e_kpn : kpC (some none) = none := rfl
@[simp] theorem e_kpnn : kpC none = none := rfl
variable {L2 : Env'}
@[simp] theorem e_rest0 : restL L L2 [] = L2 := rfl
@[simp] theorem e_rest1 : restL L L2 (i :: vs) = (restL L L2 vs).set i (keepC L i) := rfl
-- iterables
def lstO (o : Option D) (P : List D → Prop) : Prop := ∃ ds, o = some (.lst ds) ∧ P ds
@[simp] theorem lstO_lst {P : List D → Prop} : lstO (some (.lst ds)) P = P ds := by
  apply propext; constructor
  · rintro ⟨b, h, q⟩; cases h; exact q
  · intro h; exact ⟨ds, rfl, h⟩
def kIt (a : A) (QA : Env' → List A → Prop) (L : Env') (ds : List D) : Prop := QA L (itemsA a ds)
@[simp] theorem e_kIt : kIt a QA L ds = QA L (itemsA a ds) := rfl
def kItL (QA : Env' → List A → Prop) : KE' := fun L a => lstO (a.get L) (kIt a QA L)
@[simp] theorem e_uItL : uItL u XQ L QA = u XQ L (kItL QA) := rfl
@[simp] theorem e_kItL : kItL QA L a = lstO (a.get L) (kIt a QA L) := rfl
def kItT (QA : Env' → List A → Prop) : KE' := fun L a => tupO (a.get L) (kIt a QA L)
@[simp] theorem e_uItT : uItT u XQ L QA = u XQ L (kItT QA) := rfl
@[simp] theorem e_kItT : kItT QA L a = tupO (a.get L) (kIt a QA L) := rfl
def strO (o : Option D) (P : Str → Prop) : Prop := ∃ z, o = some (.str z) ∧ P z
@[simp] theorem strO_str {P : Str → Prop} {z : Str} : strO (some (.str z)) P = P z := by
  apply propext; constructor
  · rintro ⟨b, h, q⟩; cases h; exact q
  · intro h; exact ⟨z, rfl, h⟩
def kSt (QA : Env' → List A → Prop) (L : Env') (z : Str) : Prop := QA L (strA z)
@[simp] theorem e_kSt {z : Str} : kSt QA L z = QA L (strA z) := rfl
def kItS (QA : Env' → List A → Prop) : KE' := fun L a => strO (a.get L) (kSt QA L)
@[simp] theorem e_uItS : uItS u XQ L QA = u XQ L (kItS QA) := rfl
@[simp] theorem e_kItS : kItS QA L a = strO (a.get L) (kSt QA L) := rfl
def rngO (o : Option (List D)) (QA : Env' → List A → Prop) (L : Env') : Prop := ∃ j, o = some [.int j] ∧ -(2 ^ 62) ≤ j ∧ j < 2 ^ 62 ∧ QA L (rangeA 0 j.toNat)
@[simp] theorem e_rngO {k : Int} : rngO (some [.int k]) QA L = (-(2 ^ 62) ≤ k ∧ k < 2 ^ 62 ∧ QA L (rangeA 0 k.toNat)) := by
  apply propext; constructor
  · rintro ⟨j, h, q⟩; cases h; exact q
  · intro h; exact ⟨k, rfl, h⟩
def kRng (QA : Env' → List A → Prop) (L : Env') (as : List A) : Prop := rngO (getAll L as) QA L
@[simp] theorem e_uRng1 : uRng1 w XQ L QA = w XQ L (kRng QA) := rfl
@[simp] theorem e_kRng : kRng QA L as = rngO (getAll L as) QA L := rfl
-- paths
variable {f : UP}
def kP (QD : KE') (L : Env') (a : A) : Prop := QD L a
@[simp] theorem e_kP : kP QD L a = QD L a := rfl
@[simp] theorem e_uP : uP f XQ L QD = oE (f L) (kP QD L) := rfl
@[simp] theorem e_uNX : uNX u XQ L QD = u noX L QD := rfl
@[simp] theorem e_uNXS : uNXS us XQ DD L = us noX DD L := rfl
def dicO (o : Option D) (P : List (Key × D) → Prop) : Prop := ∃ kds, o = some (.dic kds) ∧ P kds
@[simp] theorem dicO_dic {P : List (Key × D) → Prop} {kds : List (Key × D)} : dicO (some (.dic kds)) P = P kds := by
  apply propext; constructor
  · rintro ⟨b, h, q⟩; cases h; exact q
  · intro h; exact ⟨kds, rfl, h⟩
@[simp] theorem e_isGBg : isGB (.g d) = true := rfl
@[simp] theorem e_isGBb : isGB (.b d) = true := rfl
end k
end QD.Ev

set_option Elab.async false
set_option linter.all false
set_option maxRecDepth 100000
set_option maxHeartbeats 4000000
namespace QD.Ev
open PySem PySem.Spec L2
section k
variable {XQ : XP} {L : Env'} {QD : KE'} {QT : KT'} {QA : Env' → List A → Prop} {a b : A} {d x : D} {i j n : Nat} {u ua ub uc uk w1 w2 : UE} {ue uv : UG} {ut uw : UT} {w : UA} {fn1 : D → Option D} {fn2 fn3 : D → D → Option D} {DD : ED} {us us2 : US} {as : List A} {ds : List D} {bb : Bool} {f : UP} {C0 C1 : Addr} {m : Str} {k : Int} {kds : List (Key × D)} {gs : List (Str × D)} {N : Env' → Prop} {ms : List Md} {t : TF} {wi : UI} {wt : UTg} {vs : List Nat}
-- paths
def pvC (i : Nat) : Option (Option C) → Option A
  | some (some (.g d)) => some (.g d)
  | some (some (.b d)) => some (.b d)
  | some (some (.o _)) => some (.sl i)
  | some (some (.p _)) => some (.sl i)
  | _ => none
@[simp] theorem e_pVar : pVar i L = pvC i (L[i]?) := rfl
@[simp] theorem e_pvg : pvC i (some (some (.g d))) = some (.g d) := rfl
@[simp] theorem e_pvb : pvC i (some (some (.b d))) = some (.b d) := rfl
@[simp] theorem e_pvo : pvC i (some (some (.o d))) = some (.sl i) := rfl
@[simp] theorem e_pvp : pvC i (some (some (.p d))) = some (.sl i) := rfl
def insF (C : Addr) (n : Str) (a : A) : Option D → Option A
  | some (.ins C' gs) => if C' = C then (gs.lookup n).map a.el else none
  | _ => none
def pfC (C : Addr) (n : Str) (L : Env') : Option A → Option A
  | some a => insF C n a (a.get L)
  | none => none
@[simp] theorem e_pFld : pFld C0 m f L = pfC C0 m L (f L) := by
  show (f L).bind _ = _; cases f L <;> rfl
@[simp] theorem e_pfC : pfC C0 m L (some a) = insF C0 m a (a.get L) := rfl
@[simp] theorem e_insF : insF C0 m a (some (.ins C0 gs)) = (gs.lookup m).map a.el := by unfold insF; simp
def tupI (i : Int) (a : A) : Option D → Option A
  | some (.tup ds) => (atI ds i).map a.el
  | _ => none
def piC (i : Int) (L : Env') : Option A → Option A
  | some a => tupI i a (a.get L)
  | none => none
@[simp] theorem e_pIxT : pIxT k f L = piC k L (f L) := by
  show (f L).bind _ = _; cases f L <;> rfl
@[simp] theorem e_piC : piC k L (some a) = tupI k a (a.get L) := rfl
@[simp] theorem e_tupI : tupI k a (some (.tup ds)) = (atI ds k).map a.el := rfl
@[simp] theorem atI_0 {α : Type} {x : α} {xs : List α} : atI (x :: xs) 0 = some x := by
  unfold atI ixN
  have : (0 : Int) < ((x :: xs).length : Int) := by simp
  rw [if_pos (Int.le_refl 0), if_pos this]; rfl
@[simp] theorem atI_1 {α : Type} {x y : α} {xs : List α} : atI (x :: y :: xs) 1 = some y := by
  unfold atI ixN
  have : (1 : Int) < ((x :: y :: xs).length : Int) := by simp; omega
  rw [if_pos (by decide), if_pos this]; rfl
-- dicts
def kIP2 (a : A) (QA : Env' → List A → Prop) (L : Env') (kds : List (Key × D)) : Prop := pairsOk a kds = true ∧ QA L (itemsKA kds)
def kIP (QA : Env' → List A → Prop) (L : Env') (a : A) : Prop := isGB a = true ∧ dicO (a.get L) (kIP2 a QA L)
@[simp] theorem e_uItemsP : uItemsP f XQ L QA = oE (f L) (kIP QA L) := by
  apply propext; constructor
  · rintro ⟨a, kds, ⟨h1, h2, h3⟩, h4⟩; exact ⟨a, h1, h2, kds, h3, h4⟩
  · rintro ⟨a, h1, h2, kds, h3, h4⟩; exact ⟨a, kds, ⟨h1, h2, h3⟩, h4⟩
@[simp] theorem e_kIP : kIP QA L a = (isGB a = true ∧ dicO (a.get L) (kIP2 a QA L)) := rfl
@[simp] theorem e_kIP2 : kIP2 a QA L kds = (pairsOk a kds = true ∧ QA L (itemsKA kds)) := rfl
@[simp] theorem e_pairsg : pairsOk (.g d) kds = true := rfl
@[simp] theorem e_pairsb : pairsOk (.b d) kds = kds.all fun p => p.2.flat := rfl
def kKP2 (QA : Env' → List A → Prop) (L : Env') (kds : List (Key × D)) : Prop := QA L (keysA kds)
def kKP (QA : Env' → List A → Prop) (L : Env') (a : A) : Prop := isGB a = true ∧ dicO (a.get L) (kKP2 QA L)
@[simp] theorem e_uKeysP : uKeysP f XQ L QA = oE (f L) (kKP QA L) := by
  apply propext; constructor
  · rintro ⟨a, kds, ⟨h1, h2, h3⟩, h4⟩; exact ⟨a, h1, h2, kds, h3, h4⟩
  · rintro ⟨a, h1, h2, kds, h3, h4⟩; exact ⟨a, kds, ⟨h1, h2, h3⟩, h4⟩
@[simp] theorem e_kKP : kKP QA L a = (isGB a = true ∧ dicO (a.get L) (kKP2 QA L)) := rfl
@[simp] theorem e_kKP2 : kKP2 QA L kds = QA L (keysA kds) := rfl
def kIF (QA : Env' → List A → Prop) : KE' := fun L a => ∃ kds, a = .f (.dic kds) ∧ QA L (itemsKA kds)
@[simp] theorem e_uItemsF : uItemsF u XQ L QA = u XQ L (kIF QA) := rfl
@[simp] theorem e_kIF : kIF QA L (.f (.dic kds)) = QA L (itemsKA kds) := by unfold kIF; simp
-- dict comprehensions
variable {Qc : Env' → List (Key × D) → Prop} {acc : List (Key × D)} {Kc : List (Key × D) → Env' → Prop} {L2 : Env'}
def kDcE (L : Env') (vs : List Nat) (QD : KE') : Env' → List (Key × D) → Prop := fun L2 ds => QD (restL L L2 vs) (.f (.dic ds))
@[simp] theorem e_kDcE : kDcE L vs QD L2 kds = QD (restL L L2 vs) (.f (.dic kds)) := rfl
def kDc (wt : UTg) (ut : UT) (uk uv : UG) (vs : List Nat) (XQ : XP) (QD : KE') (L : Env') (as : List A) : Prop := vs.all (notP L) = true ∧ uDcI wt ut uk uv vs XQ as [] (wipeL L vs) (kDcE L vs QD)
variable {uq : UG}
@[simp] theorem e_uDc : uDc wi wt ut uq uv vs XQ L QD = wi XQ L (kDc wt ut uq uv vs XQ QD) := rfl
@[simp] theorem e_kDc : kDc wt ut uq uv vs XQ QD L as = (vs.all (notP L) = true ∧ uDcI wt ut uq uv vs XQ as [] (wipeL L vs) (kDcE L vs QD)) := rfl
def kDI4 (vs : List Nat) (acc : List (Key × D)) (K : List (Key × D) → Env' → Prop) (dk : D) (L : Env') (d : D) : Prop := ∃ k, dkey dk = some k ∧ acc.length < sizeLine ∧ K (putD acc k d) (wipeL L vs)
def kDI3 (uv : UG) (vs : List Nat) (XQ : XP) (acc : List (Key × D)) (K : List (Key × D) → Env' → Prop) (L : Env') (dk : D) : Prop := uv XQ L (kDI4 vs acc K dk)
def kDI2 (uk uv : UG) (vs : List Nat) (XQ : XP) (acc : List (Key × D)) (K : List (Key × D) → Env' → Prop) : KT' := fun L b => if b = true then uk XQ L (kDI3 uv vs XQ acc K) else K acc (wipeL L vs)
def kDI1 (ut : UT) (uk uv : UG) (vs : List Nat) (XQ : XP) (acc : List (Key × D)) (K : List (Key × D) → Env' → Prop) : Env' → Prop := fun L => ut XQ L (kDI2 uk uv vs XQ acc K)
def kDI0 (wt : UTg) (ut : UT) (uk uv : UG) (vs : List Nat) (XQ : XP) (as : List A) (Qc : Env' → List (Key × D) → Prop) (acc : List (Key × D)) (L : Env') : Prop := uDcI wt ut uk uv vs XQ as acc L Qc
theorem e_di0 : uDcI wt ut uq uv vs XQ [] acc L Qc = Qc L acc := rfl
theorem e_di1 : uDcI wt ut uq uv vs XQ (a :: as) acc L Qc = wt L a (kDI1 ut uq uv vs XQ acc (kDI0 wt ut uq uv vs XQ as Qc)) := rfl
@[simp] theorem e_kDI1 : kDI1 ut uq uv vs XQ acc Kc L = ut XQ L (kDI2 uq uv vs XQ acc Kc) := rfl
@[simp] theorem e_kDI2 : kDI2 uq uv vs XQ acc Kc L bb = if bb = true then uq XQ L (kDI3 uv vs XQ acc Kc) else Kc acc (wipeL L vs) := rfl
@[simp] theorem e_kDI3 : kDI3 uv vs XQ acc Kc L d = uv XQ L (kDI4 vs acc Kc d) := rfl
@[simp] theorem e_kDI4s {z : Str} : kDI4 vs acc Kc (.str z) L d = (acc.length < sizeLine ∧ Kc (putD acc (.inr z) d) (wipeL L vs)) := by unfold kDI4 dkey; simp
@[simp] theorem e_kDI4i : kDI4 vs acc Kc (.int k) L d = (acc.length < sizeLine ∧ Kc (putD acc (.inl k) d) (wipeL L vs)) := by unfold kDI4 dkey; simp
@[simp] theorem e_kDI0 : kDI0 wt ut uq uv vs XQ as Qc acc L = uDcI wt ut uq uv vs XQ as acc L Qc := rfl
@[simp] theorem dkey_str {z : Str} : dkey (.str z) = some (.inr z) := rfl
@[simp] theorem dkey_int : dkey (.int k) = some (.inl k) := rfl
-- a op b op c
def kCh3 (g : D → D → Option D) (b : A) (QD : KE') : KE' := fun L c => oE (b.get L) (k2b g (kG QD L) (c.get L))
def kCh2 (g : D → D → Option D) (uc : UE) (XQ : XP) (b : A) (QD : KE') (L : Env') (r : Bool) : Prop := if r = true then uc XQ L (kCh3 g b QD) else QD L (.g (.bl false))
def blO (P : Bool → Prop) (d : D) : Prop := ∃ r, d = .bl r ∧ P r
@[simp] theorem e_blO {P : Bool → Prop} : blO P (.bl bb) = P bb := by unfold blO; simp
def kChb (f g : D → D → Option D) (uc : UE) (XQ : XP) (a : A) (QD : KE') : KE' := fun L b => oE (a.get L) (k2b f (blO (kCh2 g uc XQ b QD L)) (b.get L))
def kCha (f g : D → D → Option D) (ub uc : UE) (XQ : XP) (QD : KE') : KE' := fun L a => ub XQ L (kChb f g uc XQ a QD)
@[simp] theorem e_uChain : uChain fn2 fn3 ua ub uc XQ L QD = ua XQ L (kCha fn2 fn3 ub uc XQ QD) := by
  have : kCha fn2 fn3 ub uc XQ QD = fun L1 a => ub XQ L1 fun L2 b => ∃ x y k, a.get L2 = some x ∧ b.get L2 = some y ∧ fn2 x y = some (.bl k) ∧ if k = true then uc XQ L2 fun L3 c => ∃ y' z d, b.get L3 = some y' ∧ c.get L3 = some z ∧ fn3 y' z = some d ∧ QD L3 (.g d) else QD L2 (.g (.bl false)) := by
    funext L1 a
    have : kChb fn2 fn3 uc XQ a QD = fun L2 b => ∃ x y k, a.get L2 = some x ∧ b.get L2 = some y ∧ fn2 x y = some (.bl k) ∧ if k = true then uc XQ L2 fun L3 c => ∃ y' z d, b.get L3 = some y' ∧ c.get L3 = some z ∧ fn3 y' z = some d ∧ QD L3 (.g d) else QD L2 (.g (.bl false)) := by
      funext L2 b
      have e : kCh3 fn3 b QD = fun L3 c => ∃ y' z d, b.get L3 = some y' ∧ c.get L3 = some z ∧ fn3 y' z = some d ∧ QD L3 (.g d) := by
        funext L3 c; exact (ex3 (P := fun d => QD L3 (.g d))).symm
      rw [← e]
      apply propext; constructor
      · rintro ⟨x, h1, y, h2, d, h3, r, rfl, h4⟩; exact ⟨x, y, r, h1, h2, h3, h4⟩
      · rintro ⟨x, y, r, h1, h2, h3, h4⟩; exact ⟨x, h1, y, h2, _, h3, r, rfl, h4⟩
    show ub XQ L1 (kChb fn2 fn3 uc XQ a QD) = _
    rw [this]
  rw [this]; rfl
@[simp] theorem e_kCha : kCha fn2 fn3 ub uc XQ QD L a = ub XQ L (kChb fn2 fn3 uc XQ a QD) := rfl
@[simp] theorem e_kChb : kChb fn2 fn3 uc XQ a QD L b = oE (a.get L) (k2b fn2 (blO (kCh2 fn3 uc XQ b QD L)) (b.get L)) := rfl
@[simp] theorem e_kCh2 : kCh2 fn3 uc XQ b QD L bb = if bb = true then uc XQ L (kCh3 fn3 b QD) else QD L (.g (.bl false)) := rfl
@[simp] theorem e_kCh3 : kCh3 fn3 b QD L a = oE (b.get L) (k2b fn3 (kG QD L) (a.get L)) := rfl
-- d.get(k, x)
def getR (a c : A) (QD : KE') (L : Env') : Option D → Prop
  | some v => QD L (a.el v)
  | none => QD L c
@[simp] theorem e_getRs {c : A} : getR a c QD L (some d) = QD L (a.el d) := rfl
@[simp] theorem e_getRn {c : A} : getR a c QD L none = QD L c := rfl
def kGt4 (a c : A) (QD : KE') (L : Env') (kds : List (Key × D)) (k : Key) : Prop := getR a c QD L (valD kds k)
@[simp] theorem e_kGt4 {c : A} {kk : Key} : kGt4 a c QD L kds kk = getR a c QD L (valD kds kk) := rfl
def kGt3 (a b c : A) (QD : KE') (L : Env') (kds : List (Key × D)) : Prop := oE ((b.get L).bind dkey) (kGt4 a c QD L kds)
@[simp] theorem e_kGt3 {c : A} : kGt3 a b c QD L kds = oE ((b.get L).bind dkey) (kGt4 a c QD L kds) := rfl
def kGt2 (a b : A) (QD : KE') : KE' := fun L c => dicO (a.get L) (kGt3 a b c QD L)
def kGt1 (uc : UE) (XQ : XP) (a : A) (QD : KE') : KE' := fun L b => uc XQ L (kGt2 a b QD)
def kGt0 (ub uc : UE) (XQ : XP) (QD : KE') : KE' := fun L a => isDic (a.get L) ∧ ub XQ L (kGt1 uc XQ a QD)
@[simp] theorem e_isDic : isDic (some (.dic kds)) = True := rfl
@[simp] theorem e_uGet2 : uGet2 ua ub uc XQ L QD = ua XQ L (kGt0 ub uc XQ QD) := by
  have : kGt0 ub uc XQ QD = fun L1 a => isDic (a.get L1) ∧ ub XQ L1 fun L2 b => uc XQ L2 fun L3 c => ∃ kds y k, a.get L3 = some (.dic kds) ∧ b.get L3 = some y ∧ dkey y = some k ∧ match valD kds k with | some v => QD L3 (a.el v) | none => QD L3 c := by
    funext L1 a
    have : kGt1 uc XQ a QD = fun L2 b => uc XQ L2 fun L3 c => ∃ kds y k, a.get L3 = some (.dic kds) ∧ b.get L3 = some y ∧ dkey y = some k ∧ match valD kds k with | some v => QD L3 (a.el v) | none => QD L3 c := by
      funext L2 b
      have : kGt2 a b QD = fun L3 c => ∃ kds y k, a.get L3 = some (.dic kds) ∧ b.get L3 = some y ∧ dkey y = some k ∧ match valD kds k with | some v => QD L3 (a.el v) | none => QD L3 c := by
        funext L3 c
        apply propext; constructor
        · rintro ⟨kds, h1, k, h2, h3⟩
          cases e : b.get L3 with
          | none => rw [e] at h2; cases h2
          | some y =>
            rw [e] at h2
            refine ⟨kds, y, k, h1, rfl, h2, ?_⟩
            unfold kGt4 getR at h3
            exact h3
        · rintro ⟨kds, y, k, h1, h2, h3, h4⟩
          refine ⟨kds, h1, k, by rw [h2]; exact h3, ?_⟩
          unfold kGt4 getR
          exact h4
      show uc XQ L2 (kGt2 a b QD) = _
      rw [this]
    show (isDic (a.get L1) ∧ ub XQ L1 (kGt1 uc XQ a QD)) = _
    rw [this]
  rw [this]; rfl
@[simp] theorem e_kGt0 : kGt0 ub uc XQ QD L a = (isDic (a.get L) ∧ ub XQ L (kGt1 uc XQ a QD)) := rfl
@[simp] theorem e_kGt1 : kGt1 uc XQ a QD L b = uc XQ L (kGt2 a b QD) := rfl
@[simp] theorem e_kGt2 {c : A} : kGt2 a b QD L c = dicO (a.get L) (kGt3 a b c QD L) := rfl
-- join
def kJ2 (a : A) (QD : KE') : KE' := fun L b => oE (a.get L) (k2b joinD (kG QD L) (b.get L))
def kJ1 (ub : UE) (XQ : XP) (QD : KE') : KE' := fun L a => (∃ z, a.get L = some (.str z)) ∧ ub XQ L (kJ2 a QD)
@[simp] theorem e_uJoin : uJoin ua ub XQ L QD = ua XQ L (kJ1 ub XQ QD) := by
  have : kJ1 ub XQ QD = fun L1 a => (∃ z, a.get L1 = some (.str z)) ∧ ub XQ L1 fun L2 b => ∃ x y d, a.get L2 = some x ∧ b.get L2 = some y ∧ joinD x y = some d ∧ QD L2 (.g d) := by
    funext L1 a
    have : kJ2 a QD = fun L2 b => ∃ x y d, a.get L2 = some x ∧ b.get L2 = some y ∧ joinD x y = some d ∧ QD L2 (.g d) := by funext L2 b; exact (ex3 (P := fun d => QD L2 (.g d))).symm
    show (_ ∧ ub XQ L1 (kJ2 a QD)) = _
    rw [this]
  rw [this]; rfl
@[simp] theorem e_kJ1 : kJ1 ub XQ QD L (.g (.str m)) = ub XQ L (kJ2 (.g (.str m)) QD) := by unfold kJ1; simp
@[simp] theorem e_kJ2 : kJ2 a QD L b = oE (a.get L) (k2b joinD (kG QD L) (b.get L)) := rfl
-- changes
def kApp2 (i : Nat) (DD : ED) (L : Env') (d : D) (ds : List D) : Prop := ds.length < sizeLine ∧ DD.nx (putO L i (.lst (ds ++ [d])))
def kApp (i : Nat) (DD : ED) (L : Env') (d : D) : Prop := lstO (ownAt L i) (kApp2 i DD L d)
def isLst : Option D → Prop
  | some (.lst _) => True
  | _ => False
@[simp] theorem e_isLst : isLst (some (.lst ds)) = True := rfl
def isDc (o : Option D) : Prop := ∃ kds, o = some (.dic kds)
@[simp] theorem e_isDc : isDc (some (.dic kds)) = True := by unfold isDc; simp
def isLs (o : Option D) : Prop := ∃ kds, o = some (.lst kds)
@[simp] theorem e_isLs : isLs (some (.lst ds)) = True := by unfold isLs; simp
@[simp] theorem e_uApp : uApp i ue XQ DD L = (isLs (ownAt L i) ∧ ue XQ L (kApp i DD)) := rfl
@[simp] theorem e_kApp : kApp i DD L d = lstO (ownAt L i) (kApp2 i DD L d) := rfl
@[simp] theorem e_kApp2 : kApp2 i DD L d ds = (ds.length < sizeLine ∧ DD.nx (putO L i (.lst (ds ++ [d])))) := rfl
def kClr (i : Nat) (DD : ED) (L : Env') (_ : List (Key × D)) : Prop := DD.nx (putO L i (.dic []))
@[simp] theorem e_uClr : uClr i XQ DD L = dicO (ownAt L i) (kClr i DD L) := rfl
@[simp] theorem e_kClr : kClr i DD L kds = DD.nx (putO L i (.dic [])) := rfl
def kPut3 (i : Nat) (DD : ED) (L : Env') (d : D) (kds : List (Key × D)) (k : Key) : Prop := kds.length < sizeLine ∧ DD.nx (putO L i (.dic (putD kds k d)))
@[simp] theorem e_kPut3 {kk : Key} : kPut3 i DD L d kds kk = (kds.length < sizeLine ∧ DD.nx (putO L i (.dic (putD kds kk d)))) := rfl
def kPut2 (i : Nat) (DD : ED) (L : Env') (d : D) (b : A) (kds : List (Key × D)) : Prop := oE ((b.get L).bind dkey) (kPut3 i DD L d kds)
@[simp] theorem e_kPut2 : kPut2 i DD L d b kds = oE ((b.get L).bind dkey) (kPut3 i DD L d kds) := rfl
def kPut1 (i : Nat) (DD : ED) (d : D) : KE' := fun L b => dicO (ownAt L i) (kPut2 i DD L d b)
@[simp] theorem e_kPut1 : kPut1 i DD d L b = dicO (ownAt L i) (kPut2 i DD L d b) := rfl
def kPut (i : Nat) (uk : UE) (XQ : XP) (DD : ED) (L : Env') (d : D) : Prop := isDc (ownAt L i) ∧ uk XQ L (kPut1 i DD d)
@[simp] theorem e_uPut : uPut i ue uk XQ DD L = ue XQ L (kPut i uk XQ DD) := by
  have : kPut i uk XQ DD = fun L1 d => (∃ kds, ownAt L1 i = some (.dic kds)) ∧ uk XQ L1 fun L2 b => ∃ kds y k, ownAt L2 i = some (.dic kds) ∧ b.get L2 = some y ∧ dkey y = some k ∧ kds.length < sizeLine ∧ DD.nx (putO L2 i (.dic (putD kds k d))) := by
    funext L1 d
    have : kPut1 i DD d = fun L2 b => ∃ kds y k, ownAt L2 i = some (.dic kds) ∧ b.get L2 = some y ∧ dkey y = some k ∧ kds.length < sizeLine ∧ DD.nx (putO L2 i (.dic (putD kds k d))) := by
      funext L2 b
      apply propext; constructor
      · rintro ⟨kds, h1, k, h2, h3⟩
        cases e : b.get L2 with
        | none => rw [e] at h2; cases h2
        | some y => rw [e] at h2; exact ⟨kds, y, k, h1, rfl, h2, h3⟩
      · rintro ⟨kds, y, k, h1, h2, h3, h4⟩; exact ⟨kds, h1, k, by rw [h2]; exact h3, h4⟩
    show (_ ∧ uk XQ L1 (kPut1 i DD d)) = _
    rw [this]; rfl
  rw [this]; rfl
@[simp] theorem e_kPut : kPut i uk XQ DD L d = (isDc (ownAt L i) ∧ uk XQ L (kPut1 i DD d)) := rfl
def kLp3 (i : Nat) (DD : ED) (L : Env') (d : D) (ds : List D) (j : Nat) : Prop := DD.nx (putO L i (.lst (ds.set j d)))
@[simp] theorem e_kLp3 : kLp3 i DD L d ds j = DD.nx (putO L i (.lst (ds.set j d))) := rfl
def intO (P : Int → Prop) (d : D) : Prop := ∃ k, d = .int k ∧ P k
@[simp] theorem e_intO {P : Int → Prop} : intO P (.int k) = P k := by unfold intO; simp
def kLp2b (i : Nat) (DD : ED) (L : Env') (d : D) (ds : List D) (k : Int) : Prop := oE (ixN ds.length k) (kLp3 i DD L d ds)
@[simp] theorem e_kLp2b : kLp2b i DD L d ds k = oE (ixN ds.length k) (kLp3 i DD L d ds) := rfl
def kLp2 (i : Nat) (DD : ED) (L : Env') (d : D) (b : A) (ds : List D) : Prop := oE (b.get L) (intO (kLp2b i DD L d ds))
@[simp] theorem e_kLp2 : kLp2 i DD L d b ds = oE (b.get L) (intO (kLp2b i DD L d ds)) := rfl
def kLp1 (i : Nat) (DD : ED) (d : D) : KE' := fun L b => lstO (ownAt L i) (kLp2 i DD L d b)
@[simp] theorem e_kLp1 : kLp1 i DD d L b = lstO (ownAt L i) (kLp2 i DD L d b) := rfl
def kLput (i : Nat) (uk : UE) (XQ : XP) (DD : ED) (L : Env') (d : D) : Prop := isLs (ownAt L i) ∧ uk XQ L (kLp1 i DD d)
@[simp] theorem e_uLPut : uLPut i ue uk XQ DD L = ue XQ L (kLput i uk XQ DD) := by
  have : kLput i uk XQ DD = fun L1 d => (∃ ds, ownAt L1 i = some (.lst ds)) ∧ uk XQ L1 fun L2 b => ∃ ds k j, ownAt L2 i = some (.lst ds) ∧ b.get L2 = some (.int k) ∧ ixN ds.length k = some j ∧ DD.nx (putO L2 i (.lst (ds.set j d))) := by
    funext L1 d
    have : kLp1 i DD d = fun L2 b => ∃ ds k j, ownAt L2 i = some (.lst ds) ∧ b.get L2 = some (.int k) ∧ ixN ds.length k = some j ∧ DD.nx (putO L2 i (.lst (ds.set j d))) := by
      funext L2 b
      apply propext; constructor
      · rintro ⟨ds, h1, y, h2, k, rfl, j, h3, h4⟩; exact ⟨ds, k, j, h1, h2, h3, h4⟩
      · rintro ⟨ds, k, j, h1, h2, h3, h4⟩; exact ⟨ds, h1, _, h2, k, rfl, j, h3, h4⟩
    show (_ ∧ uk XQ L1 (kLp1 i DD d)) = _
    rw [this]; rfl
  rw [this]; rfl
@[simp] theorem e_kLput : kLput i uk XQ DD L d = (isLs (ownAt L i) ∧ uk XQ L (kLp1 i DD d)) := rfl
@[simp] theorem ixN_0 {n : Nat} : ixN (n + 1) 0 = some 0 := by unfold ixN; rw [if_pos (Int.le_refl 0), if_pos (by omega)]; rfl
@[simp] theorem ixN_1 {n : Nat} : ixN (n + 1 + 1) 1 = some 1 := by unfold ixN; rw [if_pos (by decide), if_pos (by omega)]; rfl
def insP (C : Addr) (o : Option D) (P : List (Str × D) → Prop) : Prop := ∃ gs, o = some (.ins C gs) ∧ P gs
@[simp] theorem e_insP {P : List (Str × D) → Prop} : insP C0 (some (.ins C0 gs)) P = P gs := by
  apply propext; constructor
  · rintro ⟨b, h, q⟩; cases h; exact q
  · intro h; exact ⟨gs, rfl, h⟩
def kFld2 (C : Addr) (f : Str) (i : Nat) (DD : ED) (L : Env') (d : D) (gs : List (Str × D)) : Prop := gs.length < 1000 ∧ DD.nx (putO L i (.ins C (putFD f d gs)))
def kFld (C : Addr) (f : Str) (i : Nat) (DD : ED) (L : Env') (d : D) : Prop := insP C (ownAt L i) (kFld2 C f i DD L d)
@[simp] theorem e_uFld : uFld C0 m i ue XQ DD L = ue XQ L (kFld C0 m i DD) := rfl
@[simp] theorem e_kFld : kFld C0 m i DD L d = insP C0 (ownAt L i) (kFld2 C0 m i DD L d) := rfl
@[simp] theorem e_kFld2 : kFld2 C0 m i DD L d gs = (gs.length < 1000 ∧ DD.nx (putO L i (.ins C0 (putFD m d gs)))) := rfl
def kAsg (w : UTg) (DD : ED) : KE' := fun L a => w L a DD.nx
@[simp] theorem e_uAsg : uAsg u wt XQ DD L = uO u XQ L (kAsg wt DD) := rfl
@[simp] theorem e_kAsg : kAsg wt DD L a = wt L a DD.nx := rfl
def kgL2 (i : Nat) (k : Int) (d : D) (N : Env' → Prop) (L : Env') (ds : List D) (j : Nat) : Prop := N (putO L i (.lst (ds.set j d)))
@[simp] theorem e_kgL2 : kgL2 i k d N L ds j = N (putO L i (.lst (ds.set j d))) := rfl
def kgL (i : Nat) (k : Int) (d : D) (N : Env' → Prop) (L : Env') (ds : List D) : Prop := oE (ixN ds.length k) (kgL2 i k d N L ds)
@[simp] theorem e_kgL : kgL i k d N L ds = oE (ixN ds.length k) (kgL2 i k d N L ds) := rfl
@[simp] theorem e_gLPut : gLPut i k L (.g d) N = lstO (ownAt L i) (kgL i k d N L) := by
  apply propext; constructor
  · rintro ⟨d', ds, j, e, h1, h2, h3⟩; cases e; exact ⟨ds, h1, j, h2, h3⟩
  · rintro ⟨ds, h1, j, h2, h3⟩; exact ⟨d, ds, j, rfl, h1, h2, h3⟩
def kAug (f : Int → Int → Int) (i : Nat) (a : Int) (DD : ED) (L : Env') (m : Int) : Prop := notP L i = true ∧ DD.nx (L.set i (some (.g (.int (f a m)))))
def kAug1 (f : Int → Int → Int) (i : Nat) (a : Int) (DD : ED) : KE' := fun L b => oE (b.get L) (intO (kAug f i a DD L))
def augC (f : Int → Int → Int) (i : Nat) (u : UE) (XQ : XP) (DD : ED) (L : Env') (o : Option (Option C)) : Prop := ∃ a, o = some (some (.g (.int a))) ∧ u XQ L (kAug1 f i a DD)
variable {ff : Int → Int → Int} {aa : Int}
@[simp] theorem e_uAug : uAug ff i u XQ DD L = augC ff i u XQ DD L (L[i]?) := by
  have : ∀ a, kAug1 ff i a DD = fun L' b => ∃ m, b.get L' = some (.int m) ∧ notP L' i = true ∧ DD.nx (L'.set i (some (.g (.int (ff a m))))) := fun a => by
    funext L' b
    apply propext; constructor
    · rintro ⟨y, h1, m, rfl, h2⟩; exact ⟨m, h1, h2⟩
    · rintro ⟨m, h1, h2⟩; exact ⟨_, h1, m, rfl, h2⟩
  unfold augC
  simp only [this]; rfl
@[simp] theorem e_augC : augC ff i u XQ DD L (some (some (.g (.int aa)))) = u XQ L (kAug1 ff i aa DD) := by unfold augC; simp
@[simp] theorem e_kAug1 : kAug1 ff i aa DD L b = oE (b.get L) (intO (kAug ff i aa DD L)) := rfl
@[simp] theorem e_kAug : kAug ff i aa DD L k = (notP L i = true ∧ DD.nx (L.set i (some (.g (.int (ff aa k)))))) := rfl
-- displays of dicts
variable {Qp : Env' → List (Key × D) → Prop} {wp : UP2} {kk : Key}
@[simp] theorem e_uDic0 : uDic0 XQ L QD = QD L (.f (.dic [])) := rfl
@[simp] theorem e_uPs0 : uPs0 XQ L Qp = Qp L [] := rfl
def kPs4 (k : Key) (d : D) (Qp : Env' → List (Key × D) → Prop) (L : Env') (kds : List (Key × D)) : Prop := Qp L ((k, d) :: kds)
@[simp] theorem e_kPs4 : kPs4 kk d Qp L kds = Qp L ((kk, d) :: kds) := rfl
def kPs3 (w : UP2) (XQ : XP) (k : Key) (Qp : Env' → List (Key × D) → Prop) (L : Env') (d : D) : Prop := w XQ L (kPs4 k d Qp)
@[simp] theorem e_kPs3 : kPs3 wp XQ kk Qp L d = wp XQ L (kPs4 kk d Qp) := rfl
def kPs2 (uv : UG) (w : UP2) (XQ : XP) (Qp : Env' → List (Key × D) → Prop) (L : Env') (k : Key) : Prop := uv XQ L (kPs3 w XQ k Qp)
@[simp] theorem e_kPs2 : kPs2 uv wp XQ Qp L kk = uv XQ L (kPs3 wp XQ kk Qp) := rfl
def kPs1 (uv : UG) (w : UP2) (XQ : XP) (Qp : Env' → List (Key × D) → Prop) : KE' := fun L b => oE ((b.get L).bind dkey) (kPs2 uv w XQ Qp L)
@[simp] theorem e_uPs : uPs uk uv wp XQ L Qp = uk XQ L (kPs1 uv wp XQ Qp) := by
  have : kPs1 uv wp XQ Qp = fun L1 b => ∃ y k, b.get L1 = some y ∧ dkey y = some k ∧ uv XQ L1 fun L2 d => wp XQ L2 fun L3 kds => Qp L3 ((k, d) :: kds) := by
    funext L1 b
    apply propext; constructor
    · rintro ⟨k, h1, h2⟩
      cases e : b.get L1 with
      | none => rw [e] at h1; cases h1
      | some y => rw [e] at h1; exact ⟨y, k, rfl, h1, h2⟩
    · rintro ⟨y, k, h1, h2, h3⟩; exact ⟨k, by rw [h1]; exact h2, h3⟩
  rw [this]; rfl
@[simp] theorem e_kPs1 : kPs1 uv wp XQ Qp L b = oE ((b.get L).bind dkey) (kPs2 uv wp XQ Qp L) := rfl
def kDic (QD : KE') (L : Env') (kds : List (Key × D)) : Prop := QD L (.f (.dic (mergeD [] kds)))
@[simp] theorem e_uDic : uDic wp XQ L QD = wp XQ L (kDic QD) := rfl
@[simp] theorem e_kDic : kDic QD L kds = QD L (.f (.dic (mergeD [] kds))) := rfl
-- own operators
def kOw3 (t : TF) (QD : KE') (L : Env') (ds : List D) : Prop := t noX ds (kRes QD L)
@[simp] theorem e_kOw3 : kOw3 t QD L ds = t noX ds (kRes QD L) := rfl
def kOwB2 (C : Addr) (ms : List Md) (t : TF) (a : A) (QD : KE') : KE' := fun L b => isIns C (a.get L) ∧ isIns C (b.get L) ∧ oE (argsOf L ms [a, b]) (kOw3 t QD L)
def kOwB1 (C : Addr) (ms : List Md) (t : TF) (ub : UE) (XQ : XP) (QD : KE') : KE' := fun L a => ub XQ L (kOwB2 C ms t a QD)
@[simp] theorem e_uOwB : uOwB C0 ms t ua ub XQ L QD = ua XQ L (kOwB1 C0 ms t ub XQ QD) := rfl
@[simp] theorem e_kOwB1 : kOwB1 C0 ms t ub XQ QD L a = ub XQ L (kOwB2 C0 ms t a QD) := rfl
@[simp] theorem e_kOwB2 : kOwB2 C0 ms t a QD L b = (isIns C0 (a.get L) ∧ isIns C0 (b.get L) ∧ oE (argsOf L ms [a, b]) (kOw3 t QD L)) := rfl
def isInt (o : Option D) : Prop := ∃ j, o = some (.int j)
@[simp] theorem e_isInt : isInt (some (.int k)) = True := by unfold isInt; simp
def kOwI2 (C : Addr) (ms : List Md) (t : TF) (a : A) (QD : KE') : KE' := fun L b => isIns C (a.get L) ∧ isInt (b.get L) ∧ oE (argsOf L ms [a, b]) (kOw3 t QD L)
def kOwI1 (C : Addr) (ms : List Md) (t : TF) (ub : UE) (XQ : XP) (QD : KE') : KE' := fun L a => ub XQ L (kOwI2 C ms t a QD)
@[simp] theorem e_uOwI : uOwI C0 ms t ua ub XQ L QD = ua XQ L (kOwI1 C0 ms t ub XQ QD) := rfl
@[simp] theorem e_kOwI1 : kOwI1 C0 ms t ub XQ QD L a = ub XQ L (kOwI2 C0 ms t a QD) := rfl
@[simp] theorem e_kOwI2 : kOwI2 C0 ms t a QD L b = (isIns C0 (a.get L) ∧ isInt (b.get L) ∧ oE (argsOf L ms [a, b]) (kOw3 t QD L)) := rfl
def kOwN (C : Addr) (ms : List Md) (t : TF) (QD : KE') : KE' := fun L a => isIns C (a.get L) ∧ oE (argsOf L ms [a]) (kOw3 t QD L)
@[simp] theorem e_uOwN : uOwN C0 ms t ua XQ L QD = ua XQ L (kOwN C0 ms t QD) := rfl
@[simp] theorem e_kOwN : kOwN C0 ms t QD L a = (isIns C0 (a.get L) ∧ oE (argsOf L ms [a]) (kOw3 t QD L)) := rfl
end k
end QD.Ev

set_option Elab.async false
set_option linter.all false
set_option maxRecDepth 100000
set_option maxHeartbeats 4000000
namespace QD.Ev
open PySem PySem.Spec L2
section
variable {wt : UTg} {ut : UT} {ue uk uv : UG} {vs : List Nat} {XQ : XP} {L : Env'} {us : US} {DD : ED}
/-- a comprehension whose items are reckoned without a change -/
theorem comp_map (res : A → D) {Q : Env' → List D → Prop} : ∀ (as : List A) (acc : List D), (∀ a ∈ as, ∀ acc Kc, wt L a (kCI1 ut ue vs XQ acc Kc) = (acc.length < sizeLine ∧ Kc (acc ++ [res a]) L)) → acc.length + as.length ≤ sizeLine →
    uCompI wt ut ue vs XQ as acc L Q = Q L (acc ++ as.map res)
  | [], acc, _, _ => by rw [e_ci0]; simp
  | a :: as, acc, h, hl => by
    rw [e_ci1, h a (by simp)]
    simp only [List.length_cons] at hl
    have ih := comp_map res (Q := Q) as (acc ++ [res a]) (fun b hb => h b (by simp [hb])) (by simp; omega)
    rw [e_kCI0, ih]
    have : acc.length < sizeLine := by omega
    simp [this]
/-- .. with a test -/
theorem comp_filter (res : A → Option D) {Q : Env' → List D → Prop} : ∀ (as : List A) (acc : List D), (∀ a ∈ as, ∀ acc Kc, wt L a (kCI1 ut ue vs XQ acc Kc) = match res a with | some d => (acc.length < sizeLine ∧ Kc (acc ++ [d]) L) | none => Kc acc L) → acc.length + as.length ≤ sizeLine →
    uCompI wt ut ue vs XQ as acc L Q = Q L (acc ++ as.filterMap res)
  | [], acc, _, _ => by rw [e_ci0]; simp
  | a :: as, acc, h, hl => by
    rw [e_ci1, h a (by simp)]
    simp only [List.length_cons] at hl
    have hlt : acc.length < sizeLine := by omega
    cases e : res a with
    | none =>
      have ih := comp_filter res (Q := Q) as acc (fun b hb => h b (by simp [hb])) (by omega)
      simp only [e_kCI0]
      rw [ih, List.filterMap_cons, e]
    | some d =>
      have ih := comp_filter res (Q := Q) as (acc ++ [d]) (fun b hb => h b (by simp [hb])) (by simp; omega)
      simp only [e_kCI0]
      rw [ih, List.filterMap_cons, e]
      simp [hlt]
/-- .. with a state -/
theorem comp_state {S : Type} (env : S → Env') (step : S → A → S × D) {Q : Env' → List D → Prop} : ∀ (as : List A) (acc : List D) (s : S), (∀ s, ∀ a ∈ as, ∀ acc Kc, wt (env s) a (kCI1 ut ue vs XQ acc Kc) = (acc.length < sizeLine ∧ Kc (acc ++ [(step s a).2]) (env (step s a).1))) → acc.length + as.length ≤ sizeLine →
    uCompI wt ut ue vs XQ as acc (env s) Q = Q (env (as.foldl (fun s a => (step s a).1) s)) (acc ++ (as.foldl (fun (p : S × List D) a => ((step p.1 a).1, p.2 ++ [(step p.1 a).2])) (s, [])).2)
  | [], acc, s, _, _ => by rw [e_ci0]; simp
  | a :: as, acc, s, h, hl => by
    rw [e_ci1, h s a (by simp)]
    simp only [List.length_cons] at hl
    have ih := comp_state env step (Q := Q) as (acc ++ [(step s a).2]) (step s a).1 (fun s b hb => h s b (by simp [hb])) (by simp; omega)
    have aux : ∀ (as : List A) (s : S) (l : List D), (as.foldl (fun (p : S × List D) a => ((step p.1 a).1, p.2 ++ [(step p.1 a).2])) (s, l)).2 = l ++ (as.foldl (fun (p : S × List D) a => ((step p.1 a).1, p.2 ++ [(step p.1 a).2])) (s, [])).2 := by
      intro as
      induction as with
      | nil => intro s l; simp
      | cons b bs ih => intro s l; simp only [List.foldl_cons]; rw [ih, ih _ ([] ++ _)]; simp
    have hlt : acc.length < sizeLine := by omega
    simp only [e_kCI0, List.foldl_cons]
    rw [ih, aux as _ ([] ++ _)]
    simp [hlt]
/-- a loop whose body runs to its end -/
theorem loop_state {S : Type} (env : S → Env') (step : S → A → S) : ∀ (as : List A) (s : S), (∀ s, ∀ a ∈ as, ∀ N, wt (env s) a (kLp us XQ N DD) = N (env (step s a))) → uLoop wt us XQ DD as (env s) = DD.nx (env (as.foldl step s))
  | [], s, _ => by rw [e_loop0]; rfl
  | a :: as, s, h => by
    rw [e_loop1, h s a (by simp), loop_state env step as (step s a) fun s b hb => h s b (by simp [hb])]
    rfl
/-- .. under an invariant -/
theorem loop_inv {S : Type} (env : S → Env') (step : S → A → S) (I : S → Prop) : ∀ (as : List A) (s : S), (∀ s, I s → ∀ a ∈ as, (∀ N, wt (env s) a (kLp us XQ N DD) = N (env (step s a))) ∧ I (step s a)) → I s → uLoop wt us XQ DD as (env s) = DD.nx (env (as.foldl step s)) ∧ I (as.foldl step s)
  | [], s, _, hi => ⟨by rw [e_loop0]; rfl, hi⟩
  | a :: as, s, h, hi => by
    obtain ⟨h1, h2⟩ := h s hi a (by simp)
    rw [e_loop1, h1]
    exact loop_inv env step I as (step s a) (fun s hs b hb => h s hs b (by simp [hb])) h2
/-- a dict comprehension -/
theorem dcomp_filter (res : A → Option (Key × D)) {Q : Env' → List (Key × D) → Prop} : ∀ (as : List A) (acc : List (Key × D)), (∀ a ∈ as, ∀ acc Kc, wt L a (kDI1 ut uk uv vs XQ acc Kc) = match res a with | some p => (acc.length < sizeLine ∧ Kc (putD acc p.1 p.2) L) | none => Kc acc L) → acc.length + as.length ≤ sizeLine →
    uDcI wt ut uk uv vs XQ as acc L Q = Q L (mergeD acc (as.filterMap res))
  | [], acc, _, _ => by rw [e_di0]; simp [mergeD]
  | a :: as, acc, h, hl => by
    rw [e_di1, h a (by simp)]
    simp only [List.length_cons] at hl
    have hlt : acc.length < sizeLine := by omega
    cases e : res a with
    | none =>
      have ih := dcomp_filter res (Q := Q) as acc (fun b hb => h b (by simp [hb])) (by omega)
      simp only [e_kDI0]
      rw [ih, List.filterMap_cons, e]
    | some p =>
      have hp : (putD acc p.1 p.2).length ≤ acc.length + 1 := by
        unfold putD
        split <;> simp
      have ih := dcomp_filter res (Q := Q) as (putD acc p.1 p.2) (fun b hb => h b (by simp [hb])) (by omega)
      simp only [e_kDI0]
      rw [ih, List.filterMap_cons, e]
      simp [hlt, mergeD]
end
end QD.Ev

set_option Elab.async false
set_option linter.all false
set_option maxRecDepth 100000
set_option maxHeartbeats 4000000
namespace QD.Ev
open PySem PySem.Spec L2 PyProof.Rows
/-! sorting of texts -/
def leS (x y : Str) : Bool := decide (x.cps.toList ≤ y.cps.toList)
theorem leS_trans (a b c : Str) (h1 : leS a b = true) (h2 : leS b c = true) : leS a c = true := decide_eq_true (List.le_trans (of_decide_eq_true h1) (of_decide_eq_true h2))
theorem leS_total (a b : Str) : (leS a b || leS b a) = true := by
  rw [Bool.or_eq_true]
  exact (List.le_total a.cps.toList b.cps.toList).imp decide_eq_true decide_eq_true
theorem leS_anti {a b : Str} (h1 : leS a b = true) (h2 : leS b a = true) : a = b := by
  have e := List.le_antisymm (of_decide_eq_true h1) (of_decide_eq_true h2)
  obtain ⟨⟨x⟩⟩ := a
  obtain ⟨⟨y⟩⟩ := b
  simp at e
  rw [e]
def sortS (l : List Str) : List Str := l.mergeSort leS
theorem sortS_perm (l : List Str) : (sortS l).Perm l := List.mergeSort_perm ..
theorem sortS_pw (l : List Str) : (sortS l).Pairwise fun a b => leS a b = true := List.pairwise_mergeSort leS_trans leS_total l
theorem sortS_uniq {ys xs : List Str} (h : ys.Perm xs) (hs : ys.Pairwise fun a b => leS a b = true) : ys = sortS xs :=
  List.Perm.eq_of_pairwise (fun a b _ _ h1 h2 => leS_anti h1 h2) hs (sortS_pw xs) (h.trans (sortS_perm xs).symm)
theorem lt_le {x y : Str} (h : (!ltCps x.cps.toList y.cps.toList) = true) : leS y x = true := by
  rw [ltCps_eq, Bool.not_eq_true'] at h
  exact decide_eq_true (List.not_lt.mp (of_decide_eq_false h))
theorem rising_pw : ∀ (p : Str) (l : List Str), risingS p l = true → (p :: l).Pairwise fun a b => leS a b = true
  | p, [], _ => by simp
  | p, x :: r, h => by
    unfold risingS at h
    rw [Bool.and_eq_true] at h
    have ih := rising_pw x r h.2
    have hx := lt_le h.1
    refine List.pairwise_cons.mpr ⟨fun y hy => ?_, ih⟩
    rcases List.mem_cons.mp hy with rfl | hy
    · exact hx
    · exact leS_trans _ _ _ hx ((List.pairwise_cons.mp ih).1 y hy)
theorem sortedS_pw : ∀ {l : List Str}, sortedS l = true → l.Pairwise fun a b => leS a b = true
  | [], _ => .nil
  | x :: r, h => rising_pw x r h
theorem pw_sortedS {l : List Str} (h : l.Pairwise fun a b => leS a b = true) : sortedS l = true := by
  refine sortedS_of_pairwise l (h.imp fun {a b} z => ?_)
  rw [ltCps_eq]
  exact decide_eq_false (List.not_lt.mpr (of_decide_eq_true z))
theorem e_sortedL {ds : List D} {xs : List Str} {P : D → Prop} (h : strsD ds = some xs) (hl : xs.length < 64) : sortedR [.lst ds] P = P (.lst ((sortS xs).map .str)) := by
  apply propext; constructor
  · rintro ⟨xs', h1, _, h2⟩
    rw [h] at h1; cases h1
    exact h2 _ (sortS_perm xs) (pw_sortedS (sortS_pw xs))
  · intro hp
    exact ⟨xs, h, hl, fun ys h1 h2 => by rw [sortS_uniq h1 (sortedS_pw h2)]; exact hp⟩
theorem e_sortedD {kds : List (Key × D)} {xs : List Str} {P : D → Prop} (h : keysS kds = some xs) (hl : xs.length < 64) : sortedR [.dic kds] P = P (.lst ((sortS xs).map .str)) := by
  apply propext; constructor
  · rintro ⟨xs', h1, _, h2⟩
    rw [h] at h1; cases h1
    exact h2 _ (sortS_perm xs) (pw_sortedS (sortS_pw xs))
  · intro hp
    exact ⟨xs, h, hl, fun ys h1 h2 => by rw [sortS_uniq h1 (sortedS_pw h2)]; exact hp⟩
theorem strs_map : ∀ xs : List Str, strsD (xs.map .str) = some xs
  | [] => rfl
  | x :: xs => by
    have ih := strs_map xs
    unfold strsD at ih ⊢
    rw [List.map_cons, List.mapM_cons, ih]; rfl
/-! numbers under names -/
abbrev W := List (Str × Int)
def toK (w : W) : List (Key × D) := w.map fun p => (.inr p.1, .int p.2)
def names (w : W) : List Str := w.map (·.1)
theorem len_toK (w : W) : (toK w).length = w.length := List.length_map _
theorem keys_toK : ∀ w : W, keysS (toK w) = some (names w)
  | [] => rfl
  | p :: w => by
    have ih := keys_toK w
    unfold keysS at ih ⊢
    show List.mapM _ ((Sum.inr p.1, D.int p.2) :: toK w) = _
    rw [List.mapM_cons, ih]; rfl
def sortW (w : W) : W := w.mergeSort fun p q => leS p.1 q.1
theorem sortW_perm (w : W) : (sortW w).Perm w := List.mergeSort_perm ..
theorem sortW_pw (w : W) : (sortW w).Pairwise fun p q => leS p.1 q.1 = true := List.pairwise_mergeSort (fun a b c => leS_trans a.1 b.1 c.1) (fun a b => leS_total a.1 b.1) w
theorem nodup_pair {w : W} (hn : (names w).Nodup) {p q : Str × Int} (hp : p ∈ w) (hq : q ∈ w) (e : p.1 = q.1) : p = q := by
  induction w with
  | nil => cases hp
  | cons r w ih =>
    have hn' := List.nodup_cons.mp hn
    have no : ∀ x ∈ w, x.1 ≠ r.1 := fun x hx z => hn'.1 (List.mem_map.mpr ⟨x, hx, z⟩)
    rcases List.mem_cons.mp hp with h1 | h1
    · rcases List.mem_cons.mp hq with h2 | h2
      · rw [h1, h2]
      · exact absurd (by rw [← e, h1]) (no q h2)
    · rcases List.mem_cons.mp hq with h2 | h2
      · exact absurd (by rw [e, h2]) (no p h1)
      · exact ih hn'.2 h1 h2
theorem sortW_uniq {ys w : W} (hn : (names w).Nodup) (h : ys.Perm w) (hs : ys.Pairwise fun p q => leS p.1 q.1 = true) : ys = sortW w :=
  List.Perm.eq_of_pairwise (fun a b ha hb h1 h2 => nodup_pair hn (h.mem_iff.mp ha) ((sortW_perm w).mem_iff.mp hb) (leS_anti h1 h2)) hs (sortW_pw w) (h.trans (sortW_perm w).symm)
def pairsD (w : W) : D := .lst (w.map fun p => .tup [.str p.1, .int p.2])
theorem e_sortIt {w : W} {P : D → Prop} (hn : (names w).Nodup) (hl : w.length < 64) : sortItR (.dic (toK w)) P = P (pairsD (sortW w)) := by
  have back : ∀ ys : List (Key × D), ys.Perm (toK w) → ∃ v : W, ys = toK v ∧ v.Perm w := fun ys h => by
    have h2 : ys.Perm ((w.map fun p => ((Sum.inr p.1 : Key), D.int p.2))) := h
    obtain ⟨v, pv, ev⟩ := L2.perm_lift (fun p : Str × Int => ((Sum.inr p.1 : Key), D.int p.2)) h2 w rfl
    exact ⟨v, ev.symm, pv⟩
  have keyE : ∀ v : W, (toK v).map (fun p => D.tup [keyD p.1, p.2]) = v.map fun p => .tup [.str p.1, .int p.2] := fun v => by unfold toK; rw [List.map_map]; rfl
  apply propext; constructor
  · rintro ⟨_, _, h⟩
    have z := h (toK (sortW w)) ((sortW_perm w).map _) (by
      unfold toK; rw [List.pairwise_map]
      exact (sortW_pw w).imp fun {a b} z => of_decide_eq_true z)
    rw [keyE] at z
    exact z
  · intro hp
    refine ⟨fun p hp' => ?_, by rw [len_toK]; exact hl, fun ys h1 h2 => ?_⟩
    · obtain ⟨r, _, rfl⟩ := List.mem_map.mp hp'
      exact ⟨⟨_, rfl⟩, _, rfl⟩
    · obtain ⟨v, rfl, pv⟩ := back ys h1
      have hs : v.Pairwise fun p q => leS p.1 q.1 = true := by
        unfold toK at h2; rw [List.pairwise_map] at h2
        exact h2.imp fun {a b} z => decide_eq_true z
      rw [keyE, sortW_uniq hn pv hs]
      exact hp

def getO (w : W) (n : Str) : Option Int := (w.find? fun p => decide (p.1 = n)).map (·.2)
def getW (w : W) (n : Str) : Int := (getO w n).getD 0
theorem valD_toK (w : W) (n : Str) : valD (toK w) (.inr n) = (getO w n).map .int := by
  unfold valD getO toK
  rw [List.find?_map]
  have : ((fun kv : Key × D => decide (kv.1 = Sum.inr n)) ∘ fun p : Str × Int => ((Sum.inr p.1 : Key), D.int p.2)) = fun p => decide (p.1 = n) := by
    funext p
    simp
  rw [this]
  cases w.find? fun p => decide (p.1 = n) <;> rfl
theorem getO_mem {w : W} (hn : (names w).Nodup) {p : Str × Int} (hp : p ∈ w) : getO w p.1 = some p.2 := by
  unfold getO
  cases e : w.find? fun q => decide (q.1 = p.1) with
  | none =>
    have := List.find?_eq_none.mp e p hp
    simp at this
  | some q =>
    have h1 := List.mem_of_find?_eq_some e
    have h2 : q.1 = p.1 := by simpa using List.find?_some e
    rw [nodup_pair hn h1 hp h2]; rfl
theorem getO_none {w : W} {n : Str} (h : n ∉ names w) : getO w n = none := by
  unfold getO
  rw [List.find?_eq_none.mpr fun p hp z => h (List.mem_map.mpr ⟨p, hp, of_decide_eq_true z⟩)]; rfl
theorem getO_some {w : W} {n : Str} {i : Int} (h : getO w n = some i) : (n, i) ∈ w := by
  unfold getO at h
  cases e : w.find? fun q => decide (q.1 = n) with
  | none => rw [e] at h; cases h
  | some q =>
    rw [e] at h
    have h2 : q.1 = n := by simpa using List.find?_some e
    have h3 : q.2 = i := Option.some.inj h
    rw [← h2, ← h3]; exact List.mem_of_find?_eq_some e
theorem names_sortW {w : W} : names (sortW w) = sortS (names w) := by
  refine sortS_uniq ((sortW_perm w).map _) ?_
  unfold names; rw [List.pairwise_map]
  exact sortW_pw w
/-- sorted by names, zeros left out -/
def nrm (w : W) : W := (sortW w).filter fun p => p.2 ≠ 0
theorem putD_new {kds : List (Key × D)} {k : Key} {d : D} (h : k ∉ kds.map (·.1)) : putD kds k d = kds ++ [(k, d)] := by
  unfold putD
  rw [if_neg]
  intro z
  rw [List.any_eq_true] at z
  obtain ⟨p, hp, e⟩ := z
  exact h (List.mem_map.mpr ⟨p, hp, of_decide_eq_true e⟩)
theorem mergeD_new : ∀ {l acc : List (Key × D)}, (l.map (·.1)).Nodup → (∀ k ∈ l.map (·.1), k ∉ acc.map (·.1)) → mergeD acc l = acc ++ l
  | [], acc, _, _ => by simp [mergeD]
  | p :: l, acc, hn, hd => by
    rw [List.map_cons, List.nodup_cons] at hn
    have e : mergeD acc (p :: l) = mergeD (putD acc p.1 p.2) l := rfl
    rw [e, putD_new (hd p.1 (by simp)), mergeD_new hn.2 fun k hk z => ?_]
    · simp
    · rw [List.map_append, List.mem_append] at z
      rcases z with z | z
      · exact hd k (by simp only [List.map_cons, List.mem_cons]; exact .inr hk) z
      · simp at z
        exact hn.1 (by rw [← z]; exact hk)
theorem keys_map (w : W) : (toK w).map (·.1) = (names w).map Sum.inr := by unfold toK names; rw [List.map_map, List.map_map]; rfl
theorem nodup_keys {w : W} (h : (names w).Nodup) : ((toK w).map (·.1)).Nodup := by
  rw [keys_map]
  exact List.pairwise_map.mpr (h.imp fun {a b} z e => z (Sum.inr.inj e))
theorem nodup_sortW {w : W} (h : (names w).Nodup) : (names (sortW w)).Nodup := ((sortW_perm w).map _).nodup_iff.mpr h
theorem names_filter {w : W} {f : Str × Int → Bool} (h : (names w).Nodup) : (names (w.filter f)).Nodup := h.sublist (List.filter_sublist.map _)
theorem nodup_nrm {w : W} (h : (names w).Nodup) : (names (nrm w)).Nodup := names_filter (nodup_sortW h)
def keepF (w : W) (a : A) : Option (Key × D) := match a with
  | .g (.str n) => if getW w n ≠ 0 then some (.inr n, .int (getW w n)) else none
  | _ => none
theorem keep_names {w : W} (hn : (names w).Nodup) : ((sortS (names w)).map fun n => A.g (.str n)).filterMap (keepF w) = toK (nrm w) := by
  rw [← names_sortW]
  unfold names nrm toK
  rw [List.filterMap_map, List.filterMap_map]
  have : ∀ l : W, (∀ p ∈ l, p ∈ w) → l.filterMap ((keepF w ∘ fun n => A.g (.str n)) ∘ fun p => p.1) = (l.filter fun p => p.2 ≠ 0).map fun p => ((Sum.inr p.1 : Key), D.int p.2) := by
    intro l
    induction l with
    | nil => intro _; rfl
    | cons p l ih =>
      intro h
      have e : getW w p.1 = p.2 := by unfold getW; rw [getO_mem hn (h p (by simp))]; rfl
      rw [List.filterMap_cons, ih fun q hq => h q (by simp [hq])]
      by_cases z : p.2 = 0
      · simp [keepF, e, z]
      · simp [keepF, e, z]
  exact this _ fun p hp => (sortW_perm w).mem_iff.mp hp
end QD.Ev

set_option Elab.async false
set_option linter.all false
set_option maxRecDepth 100000
set_option maxHeartbeats 4000000
namespace QD.Ev
open PySem PySem.Spec L2
section
variable {wt : UTg} {ut : UT} {ue uk uv : UG} {vs : List Nat} {XQ : XP} {us : US} {DD : ED}
/-- a loop whose turns are known to go on somehow, under an invariant that may count them -/
theorem loop_ex (I : Nat → Env' → Prop) : ∀ (as : List A) (k : Nat) (L : Env'), (∀ j L a, I j L → a ∈ as → ∃ L', I (j + 1) L' ∧ ∀ N DD, wt L a (kLp us XQ N DD) = N L') → I k L → ∃ L', I (k + as.length) L' ∧ ∀ DD, uLoop wt us XQ DD as L = DD.nx L'
  | [], k, L, _, h => ⟨L, h, fun DD => by rw [e_loop0]⟩
  | a :: as, k, L, step, h => by
    obtain ⟨L1, h1, e1⟩ := step k L a h (by simp)
    obtain ⟨L2, h2, e2⟩ := loop_ex I as (k + 1) L1 (fun j L b hi hb => step j L b hi (by simp [hb])) h1
    refine ⟨L2, by simpa [Nat.add_assoc, Nat.add_comm 1] using h2, fun DD => ?_⟩
    rw [e_loop1, e1, e2]
/-- the same, the turns counted -/
theorem loop_exN (M : Nat) (I : Nat → Env' → Prop) : ∀ (as : List A) (k : Nat) (L : Env'), k + as.length ≤ M → (∀ j L a, j < M → I j L → a ∈ as → ∃ L', I (j + 1) L' ∧ ∀ N DD, wt L a (kLp us XQ N DD) = N L') → I k L → ∃ L', I (k + as.length) L' ∧ ∀ DD, uLoop wt us XQ DD as L = DD.nx L'
  | [], k, L, _, _, h => ⟨L, h, fun DD => by rw [e_loop0]⟩
  | a :: as, k, L, hM, step, h => by
    simp only [List.length_cons] at hM
    obtain ⟨L1, h1, e1⟩ := step k L a (by omega) h (by simp)
    obtain ⟨L2, h2, e2⟩ := loop_exN M I as (k + 1) L1 (by omega) (fun j L b hj hi hb => step j L b hj hi (by simp [hb])) h1
    refine ⟨L2, by simpa [Nat.add_assoc, Nat.add_comm 1] using h2, fun DD => ?_⟩
    rw [e_loop1, e1, e2]
/-- a comprehension likewise: each turn gives an item -/
theorem comp_ex (I : Nat → Env' → Prop) (G : D → Prop) : ∀ (as : List A) (acc : List D) (k : Nat) (L : Env'), (∀ j L a, I j L → a ∈ as → ∃ L' d, I (j + 1) L' ∧ G d ∧ ∀ acc Kc, wt L a (kCI1 ut ue vs XQ acc Kc) = (acc.length < sizeLine ∧ Kc (acc ++ [d]) L')) → I k L → acc.length + as.length ≤ sizeLine →
    ∃ L' ds, I (k + as.length) L' ∧ ds.length = as.length ∧ (∀ d ∈ ds, G d) ∧ ∀ Q, uCompI wt ut ue vs XQ as acc L Q = Q L' (acc ++ ds)
  | [], acc, k, L, _, h, _ => ⟨L, [], h, rfl, (fun _ z => by cases z), fun Q => by rw [e_ci0]; simp⟩
  | a :: as, acc, k, L, step, h, hl => by
    simp only [List.length_cons] at hl
    obtain ⟨L1, d, h1, g, e1⟩ := step k L a h (by simp)
    obtain ⟨L2, ds, h2, l2, g2, e2⟩ := comp_ex I G as (acc ++ [d]) (k + 1) L1 (fun j L b hi hb => step j L b hi (by simp [hb])) h1 (by simp; omega)
    refine ⟨L2, d :: ds, by simpa [Nat.add_assoc, Nat.add_comm 1] using h2, by simp [l2], fun x hx => ?_, fun Q => ?_⟩
    · rcases List.mem_cons.mp hx with rfl | hx
      · exact g
      · exact g2 x hx
    · have hlt : acc.length < sizeLine := by omega
      rw [e_ci1, e1, e_kCI0, e2]
      simp [hlt]
end
end QD.Ev

set_option Elab.async false
set_option linter.all false
set_option maxRecDepth 100000
set_option maxHeartbeats 4000000
namespace QD.Ev
open PySem PySem.Spec L2
section k
variable {XQ : XP} {L L1 : Env'} {QD : KE'} {a b : A} {d x : D} {i j n : Nat} {u ua ub : UE} {w : UA} {DD : ED} {as : List A} {ms : List Md} {t : TFM}
/-- an own container lent -/
def kLn (i : Nat) (d : D) (L : Env') (QD : KE') : KE' := fun L' a => L'[i]? = some (some (.b d)) ∧ bKeep i L L' ∧ gf a = true ∧ QD (L'.set i (some (.o d))) a
def lendC (i : Nat) (u : UE) (QD : KE') (L : Env') : Option (Option C) → Prop
  | some (some (.o d)) => d.shallow = true ∧ u noX (L.set i (some (.b d))) (kLn i d L QD)
  | _ => False
@[simp] theorem e_uLend : uLend i u XQ L QD = lendC i u QD L (L[i]?) := by
  apply propext; constructor
  · rintro ⟨d, h1, h2, h3⟩
    rw [h1]; exact ⟨h2, h3⟩
  · intro h
    unfold lendC at h
    split at h
    · rename_i d e; exact ⟨d, e, h.1, h.2⟩
    · exact h.elim
@[simp] theorem e_lendC : lendC i u QD L (some (some (.o d))) = (d.shallow = true ∧ u noX (L.set i (some (.b d))) (kLn i d L QD)) := rfl
@[simp] theorem e_kLn : kLn i d L QD L1 a = (L1[i]? = some (some (.b d)) ∧ bKeep i L L1 ∧ gf a = true ∧ QD (L1.set i (some (.o d))) a) := rfl
theorem keep_cons {i : Nat} {x y : Option C} {L L1 : Env'} (h : ∀ d, y = some (.b d) → x = some (.b d)) (h2 : bKeep i L L1) : bKeep (i + 1) (x :: L) (y :: L1) := fun j d hj e => by
  cases j with
  | zero =>
    have e : some y = some (some (.b d)) := e
    show some x = _
    rw [h d (Option.some.inj e)]
  | succ j => exact h2 j d (fun z => hj (by rw [z])) e
theorem keep_0 {x y : Option C} {L L1 : Env'} (h : bKeep L.length L L1) (hl : L1.length = L.length) : bKeep 0 (x :: L) (y :: L1) := fun j d hj e => by
  cases j with
  | zero => exact absurd rfl hj
  | succ j =>
    refine h j d (fun z => ?_) e
    have e : L1[j]? = _ := e
    rw [List.getElem?_eq_none (by omega)] at e
    cases e
theorem keep_same {i : Nat} {L : Env'} : bKeep i L L := fun _ _ _ e => e
@[simp] theorem gf_g : gf (.g d) = true := rfl
@[simp] theorem gf_f : gf (.f d) = true := rfl
/-- a pair of pairs -/
def kMx4 (a b c d : Nat) (x1 h1 : D) (DD : ED) (L : Env') (x2 h2 : D) : Prop := uMix4 a b c d x1 h1 x2 h2 DD.nx L
def kMx3 (ir : Nat) (ms : List Md) (t : TFM) (a b c d : Nat) (x1 h1 : D) (DD : ED) (L : Env') (as : List A) : Prop := uMixC ir ms t L as (kMx4 a b c d x1 h1 DD)
def kMx2 (ir : Nat) (ms : List Md) (t : TFM) (w : UA) (a b c d : Nat) (XQ : XP) (DD : ED) (L : Env') (x1 h1 : D) : Prop := w XQ L (kMx3 ir ms t a b c d x1 h1 DD)
def kMx1 (ir : Nat) (ms : List Md) (t : TFM) (w : UA) (a b c d : Nat) (XQ : XP) (DD : ED) (L : Env') (as : List A) : Prop := uMixC ir ms t L as (kMx2 ir ms t w a b c d XQ DD)
variable {p q r s ir : Nat} {x1 h1 x2 h2 : D} {QM : Env' → D → D → Prop}
@[simp] theorem e_uMix : uMix ir ms t w p q r s XQ DD L = w XQ L (kMx1 ir ms t w p q r s XQ DD) := rfl
@[simp] theorem e_kMx1 : kMx1 ir ms t w p q r s XQ DD L as = uMixC ir ms t L as (kMx2 ir ms t w p q r s XQ DD) := rfl
@[simp] theorem e_kMx2 : kMx2 ir ms t w p q r s XQ DD L x1 h1 = w XQ L (kMx3 ir ms t p q r s x1 h1 DD) := rfl
@[simp] theorem e_kMx3 : kMx3 ir ms t p q r s x1 h1 DD L as = uMixC ir ms t L as (kMx4 p q r s x1 h1 DD) := rfl
@[simp] theorem e_kMx4 : kMx4 p q r s x1 h1 DD L x2 h2 = uMix4 p q r s x1 h1 x2 h2 DD.nx L := rfl
def kMC (ir : Nat) (QM : Env' → D → D → Prop) (L : Env') (d' x h : D) : Prop := QM (putO L ir d') x h
@[simp] theorem e_kMC : kMC ir QM L d x h1 = QM (putO L ir d) x h1 := rfl
def kM2b (ir : Nat) (t : TFM) (L : Env') (QM : Env' → D → D → Prop) (ds : List D) (d0 : D) : Prop := t noX d0 ds (kMC ir QM L)
@[simp] theorem e_kM2b {ds : List D} : kM2b ir t L QM ds d = t noX d ds (kMC ir QM L) := rfl
def kM2a (ir : Nat) (t : TFM) (L : Env') (QM : Env' → D → D → Prop) (ds : List D) : Prop := oE (ownAt L ir) (kM2b ir t L QM ds)
@[simp] theorem e_kM2a {ds : List D} : kM2a ir t L QM ds = oE (ownAt L ir) (kM2b ir t L QM ds) := rfl
@[simp] theorem e_uMixC : uMixC ir ms t L (.sl ir :: as) QM = (as.all (notSl ir) = true ∧ oE (argsOf L ms as) (kM2a ir t L QM)) := by
  apply propext; constructor
  · rintro ⟨as', d0, ds, e, h1, h2, h3, h4⟩; cases e; exact ⟨h2, ds, h3, d0, h1, h4⟩
  · rintro ⟨h2, ds, h3, d0, h1, h4⟩; exact ⟨as, d0, ds, rfl, h1, h2, h3, h4⟩
@[simp] theorem e_uMix4 {N : Env' → Prop} : uMix4 p q r s x1 h1 x2 h2 N L = (p < L.length ∧ q < L.length ∧ r < L.length ∧ p ≠ q ∧ p ≠ r ∧ p ≠ s ∧ q ≠ r ∧ q ≠ s ∧ r ≠ s ∧ notP L p = true ∧ notP L q = true ∧ notP L r = true ∧ notP L s = true ∧
  N ((((L.set p (some (.g x1))).set q (some (.o h1))).set r (some (.g x2))).set s (some (.o h2)))) := rfl
variable {ue : UG} {us : US} {ds : List D} {QT : D → D → D → Prop}
def kDM3 (i : Nat) (QT : D → D → D → Prop) (L' : Env') (d1 d' : D) : Prop := ∃ d2, L'[i]? = some (some (.o d2)) ∧ QT d' d1 d2
def kDM2 (i : Nat) (QT : D → D → D → Prop) (L' : Env') (d1 : D) : Prop := oE (ownAt L' 0) (kDM3 i QT L' d1)
@[simp] theorem e_kDM2 : kDM2 i QT L d = oE (ownAt L 0) (kDM3 i QT L d) := rfl
def kDM1 (ue : UG) (i : Nat) (QT : D → D → D → Prop) (L : Env') : Prop := ue noX L (kDM2 i QT)
def oOwn (o : Option (Option C)) (P : D → Prop) : Prop := ∃ d2, o = some (some (.o d2)) ∧ P d2
@[simp] theorem oOwn_o {P : D → Prop} : oOwn (some (some (.o d))) P = P d := by
  apply propext; constructor
  · rintro ⟨b, h, q⟩; cases h; exact q
  · intro h; exact ⟨d, rfl, h⟩
@[simp] theorem e_kDM3 {d' : D} : kDM3 i QT L d d' = oOwn (L[i]?) (QT d' d) := rfl
@[simp] theorem e_kDM1 : kDM1 ue i QT L = ue noX L (kDM2 i QT) := rfl
def defM (ue : UG) (i : Nat) (QT : D → D → D → Prop) : ED := { nx := kDM1 ue i QT, rt := fun _ _ => False }
@[simp] theorem e_defMnx : (defM ue i QT).nx L = ue noX L (kDM2 i QT) := rfl
@[simp] theorem e_uDefM : uDefM ms n us ue i XQ d ds QT = us noX (defM ue i QT) (some (.p d) :: (argL ms ds ++ List.replicate n none)) := by
  have : kDM2 i QT = fun L' d1 => ∃ d' d2, ownAt L' 0 = some d' ∧ L'[i]? = some (some (.o d2)) ∧ QT d' d1 d2 := by
    funext L' d1
    apply propext; constructor
    · rintro ⟨d', h1, d2, h2, h3⟩; exact ⟨d', d2, h1, h2, h3⟩
    · rintro ⟨d', d2, h1, h2, h3⟩; exact ⟨d', h1, d2, h2, h3⟩
  unfold defM kDM1
  rw [this]; rfl
end k
end QD.Ev

set_option Elab.async false
set_option linter.all false
set_option maxRecDepth 100000
set_option maxHeartbeats 4000000
namespace QD.Ev
open PySem PySem.Spec L2
section
variable {wt : UTg} {us : US} {XQ : XP} {DD : ED}
/-- a loop over items that come of a list: a state, an invariant that counts -/
theorem loop_list {β S : Type} (item : β → A) (env : S → Env') (step : S → β → S) (I : Nat → S → Prop) (M : Nat) : ∀ (l : List β) (k : Nat) (s : S), k + l.length ≤ M → (∀ j s, j < M → I j s → ∀ b ∈ l, (∀ N, wt (env s) (item b) (kLp us XQ N DD) = N (env (step s b))) ∧ I (j + 1) (step s b)) → I k s →
    uLoop wt us XQ DD (l.map item) (env s) = DD.nx (env (l.foldl step s)) ∧ I (k + l.length) (l.foldl step s)
  | [], k, s, _, _, h => ⟨by rw [List.map_nil, e_loop0]; rfl, h⟩
  | b :: l, k, s, hM, h, hi => by
    simp only [List.length_cons] at hM
    obtain ⟨h1, h2⟩ := h k s (by omega) hi b (by simp)
    have ih := loop_list item env step I M l (k + 1) (step s b) (by omega) (fun j s hj hs c hc => h j s hj hs c (by simp [hc])) h2
    rw [List.map_cons, e_loop1, h1]
    refine ⟨ih.1, ?_⟩
    have e : k + (b :: l).length = k + 1 + l.length := by simp; omega
    rw [e]; exact ih.2
end
end QD.Ev

set_option Elab.async false
set_option linter.all false
set_option maxRecDepth 100000
set_option maxHeartbeats 4000000
namespace QD.Ev
open PySem PySem.Spec L2
/-! == of data -/
mutual
theorem eqv_refl : ∀ p : PyData, p.canLay0 = true → PyData.eqv p p = true
  | .none, _ => rfl
  | .bool b, _ => by simp [PyData.eqv]
  | .int i, _ => by simp [PyData.eqv]
  | .str x, _ => by simp [PyData.eqv]
  | .list xs, h => by
    have h : PyData.canLayAll0 xs = true := by simpa [PyData.canLay0] using h
    simpa [PyData.eqv] using eqvAll_refl xs h
  | .tuple xs, h => by
    have h : PyData.canLayAll0 xs = true := by simpa [PyData.canLay0] using h
    simpa [PyData.eqv] using eqvAll_refl xs h
  | .dict xs, h => by simp [PyData.canLay0] at h
theorem eqvAll_refl : ∀ p : List PyData, PyData.canLayAll0 p = true → PyData.eqvAll p p = true
  | [], _ => by simp [PyData.eqvAll]
  | x :: xs, h => by
    have h : x.canLay0 = true ∧ PyData.canLayAll0 xs = true := by simpa [PyData.canLayAll0] using h
    simp [PyData.eqvAll, eqv_refl x h.1, eqvAll_refl xs h.2]
end
/-- data without dicts, so deep at most -/
def Sh (n : Nat) (d : D) : Prop := ∃ p, toPy d = some p ∧ p.canLay0 = true ∧ p.depth ≤ n
theorem Sh.int (i : Int) (n : Nat) : Sh n (.int i) := ⟨.int i, by simp [toPy], by simp [PyData.canLay0], by simp [PyData.depth]⟩
theorem Sh.bl (i : Bool) (n : Nat) : Sh n (.bl i) := ⟨.bool i, by simp [toPy], by simp [PyData.canLay0], by simp [PyData.depth]⟩
theorem Sh.non (n : Nat) : Sh n .non := ⟨.none, by simp [toPy], by simp [PyData.canLay0], by simp [PyData.depth]⟩
theorem Sh.str {x : Str} (h : ∀ c ∈ x.cps.toList, c < 0x110000) (n : Nat) : Sh n (.str x) := by
  refine ⟨.str x, by simp [toPy], ?_, by simp [PyData.depth]⟩
  have : PyData.strOk x = true := by
    unfold PyData.strOk
    rw [Array.all_eq_true_iff_forall_mem]
    intro c hc
    exact decide_eq_true (h c (by simpa using hc))
  simp [PyData.canLay0, this]
theorem shs : ∀ {n : Nat} {ds : List D}, (∀ d ∈ ds, Sh n d) → ∃ ps, toPys ds = some ps ∧ PyData.canLayAll0 ps = true ∧ PyData.depthAll ps ≤ n
  | n, [], _ => ⟨[], by simp [toPys], by simp [PyData.canLayAll0], by simp [PyData.depthAll]⟩
  | n, d :: ds, h => by
    obtain ⟨p, h1, h2, h3⟩ := h d (by simp)
    obtain ⟨ps, k1, k2, k3⟩ := shs (n := n) (ds := ds) fun x hx => h x (by simp [hx])
    exact ⟨p :: ps, by simp [toPys, h1, k1], by simp [PyData.canLayAll0, h2, k2], by simp only [PyData.depthAll]; omega⟩
theorem Sh.lst {n : Nat} {ds : List D} (h : ∀ d ∈ ds, Sh n d) : Sh (n + 1) (.lst ds) := by
  obtain ⟨ps, h1, h2, h3⟩ := shs h
  exact ⟨.list ps, by simp [toPy, h1], by simp [PyData.canLay0, h2], by simp only [PyData.depth]; omega⟩
theorem Sh.tup {n : Nat} {ds : List D} (h : ∀ d ∈ ds, Sh n d) : Sh (n + 1) (.tup ds) := by
  obtain ⟨ps, h1, h2, h3⟩ := shs h
  exact ⟨.tuple ps, by simp [toPy, h1], by simp [PyData.canLay0, h2], by simp only [PyData.depth]; omega⟩
theorem Sh.mono {n m : Nat} {d : D} (h : Sh n d) (hl : n ≤ m) : Sh m d := by
  obtain ⟨p, h1, h2, h3⟩ := h
  exact ⟨p, h1, h2, by omega⟩
theorem Sh.shaped {n : Nat} {d : D} (h : Sh n d) (hl : n ≤ 64) : ∃ p, toPy d = some p ∧ SeqAt.shaped p = true ∧ p.canLay0 = true := by
  obtain ⟨p, h1, h2, h3⟩ := h
  refine ⟨p, h1, ?_, h2⟩
  unfold SeqAt.shaped
  rw [h2, decide_eq_true (by omega)]; rfl
theorem eqB_sh {n : Nat} {d : D} (h : Sh n d) (hl : n ≤ 64) : eqB d d = some true := by
  obtain ⟨p, h1, h2, h3⟩ := h.shaped hl
  have hr := eqv_refl p h3
  cases d <;> first | (simp [toPy] at h1; done) | (unfold eqB; simp only [h1, h2, hr]; rfl)
theorem eqD_sh {n : Nat} {d : D} (h : Sh n d) (hl : n ≤ 64) : eqD d d = some (.bl true) := by unfold eqD; rw [eqB_sh h hl]; rfl
theorem neD_sh {n : Nat} {d : D} (h : Sh n d) (hl : n ≤ 64) : neD d d = some (.bl false) := by unfold neD; rw [eqB_sh h hl]; rfl
theorem eqF_refl : ∀ {d : D}, flat4 d = true → eqF d d = true := fun {d} h => by
  cases d <;> first | rfl | (simp [eqF]; done) | (cases h)
theorem eqD_toK {w : W} (hn : (names w).Nodup) : eqD (.dic (toK w)) (.dic (toK w)) = some (.bl true) := by
  have h1 : ((toK w).all fun p => flat4 p.2) = true := by
    rw [List.all_eq_true]; intro p hp
    obtain ⟨r, _, rfl⟩ := List.mem_map.mp hp
    rfl
  have h2 : eqKD (toK w) (toK w) = true := by
    unfold eqKD
    rw [Bool.and_eq_true]
    refine ⟨by simp, List.all_eq_true.mpr fun p hp => ?_⟩
    obtain ⟨r, hr, rfl⟩ := List.mem_map.mp hp
    have e : valD (toK w) (Sum.inr r.1) = some (.int r.2) := by rw [valD_toK, getO_mem hn hr]; rfl
    simp [e, eqF]
  show (if ((toK w).all fun p => flat4 p.2) && _ then _ else none).map _ = _
  rw [h1, h2]; rfl
end QD.Ev

set_option Elab.async false
set_option linter.all false
set_option maxRecDepth 100000
set_option maxHeartbeats 4000000
namespace QD.Ev
open PySem PySem.Spec L2
section
variable {XQ : XP} {L : Env'} {a b : A} {d x : D} {i j : Nat} {ua ub : UE} {DD : ED}
def notS : A → Prop
  | .sl _ => False
  | _ => True
def kPar2 (i j : Nat) (c : C) (DD : ED) : KE' := fun L b => notP L i = true ∧ notP (L.set i (some c)) j = true ∧ setA (L.set i (some c)) j DD.nx b ∧ notS b
def parA (i j : Nat) (ub : UE) (XQ : XP) (DD : ED) (L : Env') : A → Prop
  | .g d => ub XQ L (kPar2 i j (.g d) DD)
  | .f d => ub XQ L (kPar2 i j (.o d) DD)
  | _ => False
def kPar1 (i j : Nat) (ub : UE) (XQ : XP) (DD : ED) : KE' := fun L a => parA i j ub XQ DD L a
theorem notS_iff {b : A} : notS b ↔ ∀ s, b ≠ .sl s := by
  cases b <;> simp [notS]
@[simp] theorem e_uPar : uPar i j ua ub XQ DD L = ua XQ L (kPar1 i j ub XQ DD) := by
  have : kPar1 i j ub XQ DD = fun L1 a => match a with
    | .g d => ub XQ L1 fun L2 b => notP L2 i = true ∧ notP (L2.set i (some (.g d))) j = true ∧ setA (L2.set i (some (.g d))) j DD.nx b ∧ ∀ s, b ≠ .sl s
    | .f d => ub XQ L1 fun L2 b => notP L2 i = true ∧ notP (L2.set i (some (.o d))) j = true ∧ setA (L2.set i (some (.o d))) j DD.nx b ∧ ∀ s, b ≠ .sl s
    | _ => False := by
    funext L1 a
    have e : ∀ c, kPar2 i j c DD = fun L2 b => notP L2 i = true ∧ notP (L2.set i (some c)) j = true ∧ setA (L2.set i (some c)) j DD.nx b ∧ ∀ s, b ≠ .sl s := fun c => by
      funext L2 b
      unfold kPar2
      rw [propext notS_iff]
    cases a <;> simp only [kPar1, parA, e]
  rw [this]; rfl
@[simp] theorem e_kPar1g : kPar1 i j ub XQ DD L (.g d) = ub XQ L (kPar2 i j (.g d) DD) := rfl
@[simp] theorem e_kPar1f : kPar1 i j ub XQ DD L (.f d) = ub XQ L (kPar2 i j (.o d) DD) := rfl
@[simp] theorem e_kPar2 {c : C} : kPar2 i j c DD L b = (notP L i = true ∧ notP (L.set i (some c)) j = true ∧ setA (L.set i (some c)) j DD.nx b ∧ notS b) := rfl
@[simp] theorem e_notSg : notS (.g d) = True := rfl
@[simp] theorem e_notSf : notS (.f d) = True := rfl
@[simp] theorem e_notSb : notS (.b d) = True := rfl
end
end QD.Ev

set_option Elab.async false
set_option linter.all false
set_option maxRecDepth 100000
set_option maxHeartbeats 4000000
namespace QH
open PySem PySem.Spec PyProof.Rows L2 QD
/-! a head: what stands behind the top, looked at by one Bool and by the defs' own parts -/
/-- where a def stands: a name of the module, a method, a property's getter -/
inductive Loc where
  | glo (x : Str)
  | met (C m : Str)
  | prp (C m : Str)
def prA (K : PySem.W.Frag) (C m : Str) : Addr := He.ma K (He.ga K C) m
def locA (K : PySem.W.Frag) : Loc → Addr
  | .glo x => He.ga K x
  | .met C m => prA K C m
  | .prp C m => match PySem.W.recIn K (prA K C m) "property" with
    | some (.ref g :: _) => g
    | _ => 0
def seeF (K : PySem.W.Frag) (a : Addr) : He.FnW := match K.lookup a with
  | some ⟨_, _, .func u, _⟩ => some (u.name, u.qualname, u.params, u.body, u.scope, u.globals, u.closure, u.builtins)
  | _ => none
structure DefQ where
  loc : Loc
  nm : Str
  qu : Str
  st : Stmt
  dfs : List He.Dv := []
def DefQ.want (d : DefQ) : He.FnW := some (d.nm, d.qu, defArgs d.st, .stmts (defBody d.st), defScope d.st, mainGlobals, [], builtinsNs)
def DefQ.fine (K : PySem.W.Frag) (d : DefQ) : Bool := PySem.W.keepIn K (.ref (locA K d.loc)) && (match K.lookup (locA K d.loc) with
  | some ⟨_, _, .func u, _⟩ => PySem.W.codeIn K u.code d.qu && He.dflB K u.defaults (d.dfs.map (He.Dv.v K)) && He.kwdB K u.kwdefaults []
  | _ => false)
theorem DefQ.get {K : PySem.W.Frag} {d : DefQ} (e : seeF K (locA K d.loc) = d.want) (c : d.fine K = true) : ∃ fd, FunD K d.nm d.qu (defArgs d.st) (defBody d.st) (defScope d.st) (d.dfs.map (He.Dv.v K)) [] (locA K d.loc) fd := by
  obtain ⟨kp, c2⟩ := He.ba c
  unfold seeF at e
  cases q : K.lookup (locA K d.loc) with
  | none => rw [q] at c2; cases c2
  | some o =>
    obtain ⟨oc, od, dt, osl⟩ := o
    rw [q] at c2 e
    cases dt with
    | func u =>
      obtain ⟨n1, n2, n3, n4, n5, n6, n7, n8, n9, n10, n11, n12, n13, n14, n15⟩ := u
      have e2 : (some (n1, n2, n3, n4, n5, n6, n7, n15) : He.FnW) = some (d.nm, d.qu, defArgs d.st, .stmts (defBody d.st), defScope d.st, mainGlobals, [], builtinsNs) := e
      simp only [Option.some.injEq, Prod.mk.injEq] at e2
      obtain ⟨rfl, rfl, rfl, rfl, rfl, rfl, rfl, rfl⟩ := e2
      obtain ⟨k1, k4⟩ := He.ba (show ((PySem.W.codeIn K n13 d.qu && He.dflB K n8 (d.dfs.map (He.Dv.v K))) && He.kwdB K n9 []) = true from c2)
      obtain ⟨k1, k3⟩ := He.ba k1
      exact ⟨_, ⟨oc, od, n8, n9, n10, n11, n12, n13, n14, osl, rfl, q, k1, He.dflB_ok k3, He.kwdB_ok k4⟩, kp⟩
    | _ => cases c2
/-! further facts -/
def seven : List String := ["NoneType", "bool", "int", "str", "list", "tuple", "dict"]
inductive Fb where
  | a (f : He.Fa)
  | clsF (x : Str)
  | sf (x : Str)
  | owI (x : Str) (op : Operator)
  | prp (C m : Str)
  | tup (x : Str) (vs : List He.Dv)
def Fb.ok (K : PySem.W.Frag) : Fb → Bool
  | .a f => f.ok K
  | .clsF x => ((He.Fa.cls x).ok K && He.eqO (PySem.W.findIn K (.ref (He.ga K x)) "__class__") (some (some (.builtin "object.__class__"))) && He.eqO (PySem.W.specialIn K (.builtin "object.__class__") "__get__") (some (some (.builtin "getset_descriptor.__get__")))
      && decide (PySem.W.takesIn K (.builtin "object.__class__") = some true) && decide (PySem.W.mroIn K (He.ga K x) (.type "object") = some true) && decide (PySem.W.kitOne K (.ref (He.ga K x)) (.ref (He.ga K x)) = some true))
      && seven.all (fun n => decide (PySem.W.kitOne K (.ref (He.ga K x)) (.type n) = some false)) && seven.all (fun n => decide (PySem.W.kitOne K (.type n) (.ref (He.ga K x)) = some false))
  | .sf x => PySem.W.selfFirst K (He.ga K x)
  | .owI x op => (match PySem.W.findIn K (.ref (He.ga K x)) (PySem.dunderR op.info.2) with
      | some none => true
      | some (some (.ref _)) => true
      | _ => false) && (PySem.W.findIn K (.type "int") (PySem.dunder op.info.2)).isSome && (PySem.W.findIn K (.type "int") (PySem.dunderR op.info.2)).isSome && decide (PySem.W.subIn K (.type "int") (.ref (He.ga K x)) = some false)
  | .prp C m => He.eqO (PySem.W.findIn K (.ref (He.ga K C)) m) (some (some (.ref (prA K C m)))) && He.eqO (PySem.W.specialIn K (.ref (prA K C m)) "__get__") (some (some (.builtin "property.__get__"))) && decide (PySem.W.takesIn K (.ref (prA K C m)) = some true)
      && (match PySem.W.recIn K (prA K C m) "property" with
        | some (.ref _ :: _) => true
        | _ => false)
  | .tup x vs => He.tupB K x vs
section
variable {K : PySem.W.Frag} {h : Heap} {mg : Str → Option Value}
theorem clsF_ok {x : Str} (c : (Fb.clsF x).ok K = true) : ClsF K (He.ga K x) := by
  obtain ⟨c, c8⟩ := He.ba c
  obtain ⟨c, c7⟩ := He.ba c
  obtain ⟨c, c6⟩ := He.ba c
  obtain ⟨c, c5⟩ := He.ba c
  obtain ⟨c, c4⟩ := He.ba c
  obtain ⟨c, c3⟩ := He.ba c
  obtain ⟨c1, c2⟩ := He.ba c
  exact ⟨⟨He.cls_ok c1, He.eqO_ok c2, He.eqO_ok c3, of_decide_eq_true c4, of_decide_eq_true c5, of_decide_eq_true c6⟩, fun n hn => of_decide_eq_true (List.all_eq_true.mp c7 n hn), fun n hn => of_decide_eq_true (List.all_eq_true.mp c8 n hn)⟩
theorem owI_ok {x : Str} {op : Operator} (c : (Fb.owI x op).ok K = true) : OwI K (He.ga K x) op := by
  obtain ⟨c, c4⟩ := He.ba c
  obtain ⟨c, c3⟩ := He.ba c
  obtain ⟨c1, c2⟩ := He.ba c
  obtain ⟨fo, e2⟩ := Option.isSome_iff_exists.mp c2
  obtain ⟨ro, e3⟩ := Option.isSome_iff_exists.mp c3
  cases e : PySem.W.findIn K (.ref (He.ga K x)) (PySem.dunderR op.info.2) with
  | none => rw [e] at c1; cases c1
  | some r =>
    rw [e] at c1
    cases r with
    | none => exact ⟨fo, ro, none, e, .inl rfl, e2, e3, of_decide_eq_true c4⟩
    | some v =>
      cases v with
      | ref g => exact ⟨fo, ro, _, e, .inr ⟨g, rfl⟩, e2, e3, of_decide_eq_true c4⟩
      | _ => cases c1
theorem prp_ok {C m : Str} (c : (Fb.prp C m).ok K = true) : PropOf K (He.ga K C) m (prA K C m) (locA K (.prp C m)) := by
  obtain ⟨c, c4⟩ := He.ba c
  obtain ⟨c, c3⟩ := He.ba c
  obtain ⟨c1, c2⟩ := He.ba c
  refine ⟨He.eqO_ok c1, He.eqO_ok c2, of_decide_eq_true c3, ?_⟩
  show ∃ rest, PySem.W.recIn K (prA K C m) "property" = some (.ref (match PySem.W.recIn K (prA K C m) "property" with
    | some (.ref g :: _) => g
    | _ => 0) :: rest)
  cases e : PySem.W.recIn K (prA K C m) "property" with
  | none => rw [e] at c4; cases c4
  | some l =>
    rw [e] at c4
    cases l with
    | nil => cases c4
    | cons v r =>
      cases v with
      | ref g => exact ⟨r, rfl⟩
      | _ => cases c4
theorem ints_rep {G : Hp} : ∀ l : List Int, Reps K G (l.map fun i => (He.Dv.int i).v K) (l.map D.int)
  | [] => .nil
  | i :: l => .cons (.int i) (ints_rep l)
theorem tup_ok (X : K.In h) (G : h.Ns mainGlobals mg) {x : Str} {l : List Int} (g : (He.Fa.glo x).ok K = true) (c : (Fb.tup x (l.map .int)).ok K = true) : ∃ a, mg x = some (.ref a) ∧ ∀ G, Rep K G (.ref a) (.tup (l.map .int)) := by
  refine ⟨_, He.glo_ok X G g, fun G => .tup (He.tupB_ok c G) ?_⟩
  rw [List.map_map]
  exact ints_rep l
end
/-! the hook -/
abbrev AlQ : Type := Bool × List He.FnW
def allOk (fb : List Fb) (fn : List DefQ) (K : PySem.W.Frag) : Bool := (fb.all fun f => f.ok K) && fn.all fun d => d.fine K
def obQ (n : Nat) (fb : List Fb) (fn : List DefQ) (g : Addr → Option Obj) : AlQ :=
  (allOk fb fn (He.frG g (He.asD g n)), fn.map fun d => seeF (He.frG g (He.asD g n)) (locA (He.frG g (He.asD g n)) d.loc))
def wantQ (fn : List DefQ) : AlQ := (true, fn.map DefQ.want)
/-- what is known of the heap behind the top -/
structure Says (fb : List Fb) (fn : List DefQ) (K : PySem.W.Frag) : Prop where
  ok : allOk fb fn K = true
  fns : (fn.map fun d => seeF K (locA K d.loc)) = fn.map DefQ.want
def hookQ (n : Nat) (fb : List Fb) (fn : List DefQ) : PySem.W.Hook where
  α := AlQ
  obs := fun s => obQ n fb fn s.heap.get?
  val := fun _ => wantQ fn
  says := fun _ h => ∃ K : PySem.W.Frag, K.In h ∧ Says fb fn K
  of := fun _ _ e => ⟨_, He.frG_in, ⟨congrArg (fun z : AlQ => z.1) e, congrArg (fun z : AlQ => z.2) e⟩⟩
  keeps := fun _ _ _ ⟨K, hK, c⟩ k => ⟨K, PySem.W.Frag.In.keeps hK k, c⟩
theorem obQ_eq {n : Nat} {fb : List Fb} {fn : List DefQ} (s : PySem.W.SharedT) : obQ n fb fn (HandSHeadRun.getT s) = (hookQ n fb fn).obs s.abs := by
  have e : HandSHeadRun.getT s = s.abs.heap.get? := funext (HandSHeadRun.getT_eq s)
  rw [e]; rfl
theorem Says.fact {fb : List Fb} {fn : List DefQ} {K : PySem.W.Frag} (c : Says fb fn K) {f : Fb} (h : f ∈ fb) : f.ok K = true := List.all_eq_true.mp (He.ba c.ok).1 f h
theorem Says.dfn {fb : List Fb} {fn : List DefQ} {K : PySem.W.Frag} (c : Says fb fn K) (i : Nat) {d : DefQ} (h : fn[i]? = some d := by rfl) : ∃ fd, FunD K d.nm d.qu (defArgs d.st) (defBody d.st) (defScope d.st) (d.dfs.map (He.Dv.v K)) [] (locA K d.loc) fd := by
  have e2 : (fn.map fun d => seeF K (locA K d.loc))[i]? = (fn.map DefQ.want)[i]? := by rw [c.fns]
  rw [List.getElem?_map, List.getElem?_map, h] at e2
  exact DefQ.get (Option.some.inj e2) (List.all_eq_true.mp (He.ba c.ok).2 d (List.mem_of_getElem? h))
end QH

set_option Elab.async false
set_option linter.all false
set_option maxRecDepth 100000
set_option maxHeartbeats 4000000
namespace QH
open PySem PySem.Spec PyProof.Rows L2 QD
theorem ints_repV {K : PySem.W.Frag} {G : Hp} : ∀ l : List Int, Reps K G (l.map V.int) (l.map D.int)
  | [] => .nil
  | i :: l => .cons (.int i) (ints_repV l)
/-- the law's promise: the list is shared -/
theorem law_sp {K : PySem.W.Frag} {t : TF} {H : Hp} {a : Addr} {ns : List Int} (hS : SqL K H a (ns.map V.int)) (h : t noX [.lst (ns.map .int)] fun r => r = .s (.bl true)) : SpD K [.g] t [.ref a] H (fun v _ => v = .bl true) (fun _ _ _ => False) := by
  refine ⟨H, [.lst (ns.map .int)], fun r => r = .s (.bl true), noX, .refl _, .cons (m := .g) (.lst hS (ints_repV ns)) .nil, h, fun _ _ _ _ _ _ _ _ _ _ _ _ _ z => z.elim, ?_⟩
  intro v H' G' r _ _ _ _ hr e
  subst e
  have hr : Rep K G' v (.bl true) := hr
  cases hr
  rfl
end QH

set_option Elab.async false
set_option linter.all false
set_option maxRecDepth 100000
set_option maxHeartbeats 4000000
namespace K11
open PySem PySem.Spec L2 PyProof.Rows QD
def top (i : Nat) : Stmt := PySem.Challenge.pw_quietshares_k11_sums_by_numbers.main.body.getD i (.Pass ⟨0, 0, 0, 0⟩)
def moduliD : List D := [.int 2, .int 3, .int 5, .int 7, .int 11, .int 13]
def lettersS : Str := "abcdefghijklmnopqrstuvwxyz"
def signsS : Str := "abcdefghijklmnopqrstuvwxyz0123456789"
structure Txt (K : PySem.W.Frag) (mg : Str → Option Value) (Sum : Addr) : Prop where
  Sum_mg : mg "Sum" = some (.ref Sum)
  Sum_cls : Cls K Sum
  Sum_f : ClsF K Sum
  Sum_sf : PySem.W.selfFirst K Sum = true
  Sum_int_mul : OwI K Sum .Mult
  Sum_na_own_modulus : NoAttr K Sum "own_modulus"
  Sum_na_own_weights : NoAttr K Sum "own_weights"
  Sum_na_own_constant : NoAttr K Sum "own_constant"
  g_MODULI : ∃ a, mg "MODULI" = some (.ref a) ∧ ∀ G, Rep K G (.ref a) (.tup moduliD)
  g_LETTERS : ∃ t, mg "LETTERS" = some (.str lettersS t)
  g_NAME_SIGNS : ∃ t, mg "NAME_SIGNS" = some (.str signsS t)
  g_LONGEST_NAME : ∃ t, mg "LONGEST_NAME" = some (.int 12 t)
  m_isinstance : mg "isinstance" = none
  m_int : mg "int" = none
  m_bool : mg "bool" = none
  m_str : mg "str" = none
  m_dict : mg "dict" = none
  m_list : mg "list" = none
  m_len : mg "len" = none
  m_all : mg "all" = none
  m_sum : mg "sum" = none
  m_sorted : mg "sorted" = none
  m_range : mg "range" = none
  m_max : mg "max" = none
  m_min : mg "min" = none
  m_abs : mg "abs" = none
  m_divmod : mg "divmod" = none
theorem Txt.fs {K : PySem.W.Frag} {mg : Str → Option Value} {Sum : Addr} (T : Txt K mg Sum) : ∀ C ∈ [Sum], ClsF K C := fun _ h => by
  cases List.mem_singleton.mp h
  exact T.Sum_f
/-! is_integer -/
abbrev st_is_integer : Stmt := top 15
theorem sc_is_integer : FnScope ["value"] ["value"] (defScope st_is_integer) := ⟨rfl, rfl, rfl, by decide +kernel, rfl, by decide +kernel, by decide +kernel⟩
def u_is_integer (Sum : Addr) : US :=
    (uRet (uAndV (uIs (isT [Sum] "int") (uVar 0)) (uNotV (uIs (isT [Sum] "bool") (uVar 0)))))
def t_is_integer (Sum : Addr) : TF := uDef [.b] 0 (u_is_integer Sum)
abbrev S_is_integer (K : PySem.W.Frag) (Sum : Addr) : Sp := SpD K [.b] (t_is_integer Sum)
/-! is_number -/
abbrev st_is_number : Stmt := top 16
theorem sc_is_number : FnScope ["value", "modulus"] ["value", "modulus"] (defScope st_is_number) := ⟨rfl, rfl, rfl, by decide +kernel, rfl, by decide +kernel, by decide +kernel⟩
def u_is_number (Sum : Addr) : US :=
    (uRet (uAndV (uCall [.b] (t_is_integer Sum) [] (uCons (uVar 0) uNil)) (uChain leI ltI (uC (.int 0)) (uVar 0) (uVar 1))))
def t_is_number (Sum : Addr) : TF := uDef [.b, .b] 0 (u_is_number Sum)
abbrev S_is_number (K : PySem.W.Frag) (Sum : Addr) : Sp := SpD K [.b, .b] (t_is_number Sum)
/-! is_name -/
abbrev st_is_name : Stmt := top 17
theorem sc_is_name : FnScope ["value", "sign"] ["value"] (defScope st_is_name) := ⟨rfl, rfl, rfl, by decide +kernel, rfl, by decide +kernel, by decide +kernel⟩
def u_is_name (Sum : Addr) : US :=
    (uSeq (uIfS (uOr (uNot (uB (uIs (isT [Sum] "str") (uVar 0)))) (uOr (uNot (uB (uChain leI leI (uC (.int 1)) (uO (uSn lenD (uCons (uVar 0) uNil))) (uC (.int 12))))) (uB (uS2 ninD (uO (uS2 ixSD (uVar 0) (uC (.int 0)))) (uC (.str lettersS)))))) (uRet (uC (.bl false))) uNext)
    (uRet (uSn allD (uCons (uO (uComp (uItS (uVar 0)) (gN 1) uYes (uG (uS2 inD (uVar 1) (uC (.str signsS)))) [1])) uNil))))
def t_is_name (Sum : Addr) : TF := uDef [.b] 1 (u_is_name Sum)
abbrev S_is_name (K : PySem.W.Frag) (Sum : Addr) : Sp := SpD K [.b] (t_is_name Sum)
/-! is_world -/
abbrev st_is_world : Stmt := top 18
theorem sc_is_world : FnScope ["value", "modulus", "name", "number"] ["value", "modulus"] (defScope st_is_world) := ⟨rfl, rfl, rfl, by decide +kernel, rfl, by decide +kernel, by decide +kernel⟩
def u_is_world (Sum : Addr) : US :=
    (uSeq (uIfS (uNot (uB (uIs (isT [Sum] "dict") (uVar 0)))) (uRet (uC (.bl false))) uNext)
    (uRet (uSn allD (uCons (uO (uNX (uComp (uItemsP (pVar 0)) (gT (gsCons (gN 2) (gsCons (gN 3) gsNil)) 2) uYes (uG (uAndV (uCall [.b] (t_is_name Sum) [] (uCons (uVar 2) uNil)) (uCall [.b, .b] (t_is_number Sum) [] (uCons (uVar 3) (uCons (uVar 1) uNil))))) [2, 3]))) uNil))))
def t_is_world (Sum : Addr) : TF := uDef [.b, .b] 2 (u_is_world Sum)
abbrev S_is_world (K : PySem.W.Frag) (Sum : Addr) : Sp := SpD K [.b, .b] (t_is_world Sum)
/-! is_sum -/
abbrev st_is_sum : Stmt := top 19
theorem sc_is_sum : FnScope ["value", "modulus"] ["value", "modulus"] (defScope st_is_sum) := ⟨rfl, rfl, rfl, by decide +kernel, rfl, by decide +kernel, by decide +kernel⟩
def u_is_sum (Sum : Addr) : US :=
    (uRet (uAndV (uIs (isC Sum) (uVar 0)) (uS2 eqD (uP (pFld Sum "own_modulus" (pVar 0))) (uVar 1))))
def t_is_sum (Sum : Addr) : TF := uDef [.b, .b] 0 (u_is_sum Sum)
abbrev S_is_sum (K : PySem.W.Frag) (Sum : Addr) : Sp := SpD K [.b, .b] (t_is_sum Sum)
/-! want_modulus -/
abbrev st_want_modulus : Stmt := top 20
theorem sc_want_modulus : FnScope ["value"] ["value"] (defScope st_want_modulus) := ⟨rfl, rfl, rfl, by decide +kernel, rfl, by decide +kernel, by decide +kernel⟩
def u_want_modulus (Sum : Addr) : US :=
    (uIfS (uOr (uNot (uB (uCall [.b] (t_is_integer Sum) [] (uCons (uVar 0) uNil)))) (uB (uS2 ninD (uVar 0) (uC (.tup moduliD))))) uNever uNext)
def t_want_modulus (Sum : Addr) : TF := uDef [.b] 0 (u_want_modulus Sum)
abbrev S_want_modulus (K : PySem.W.Frag) (Sum : Addr) : Sp := SpD K [.b] (t_want_modulus Sum)
/-! Sum.__init__ -/
abbrev st_Sum__init : Stmt := inClass (top 22) 0
theorem sc_Sum__init : FnScope ["self", "modulus", "weights", "constant", "name"] ["self", "modulus", "weights", "constant"] (defScope st_Sum__init) := ⟨rfl, rfl, rfl, by decide +kernel, rfl, by decide +kernel, by decide +kernel⟩
def u_Sum__init (Sum : Addr) : US :=
    (uSeq (uExpr (uCall [.b] (t_want_modulus Sum) [] (uCons (uVar 1) uNil)))
    (uSeq (uIfS (uNot (uB (uCall [.b, .b] (t_is_world Sum) [] (uCons (uVar 2) (uCons (uVar 1) uNil))))) uNever uNext)
    (uSeq (uIfS (uNot (uB (uCall [.b, .b] (t_is_number Sum) [] (uCons (uVar 3) (uCons (uVar 1) uNil))))) uNever uNext)
    (uSeq (uFld Sum "own_modulus" 0 (uG (uVar 1)))
    (uSeq (uFld Sum "own_weights" 0 (uG (uDc (uItL (uEsc (uFr sortedR (uCons (uVar 2) uNil)))) (gN 4) (uB (uS2 neD (uO (uE2 ixK (uVar 2) (uVar 4))) (uC (.int 0)))) (uG (uVar 4)) (uG (uE2 ixK (uVar 2) (uVar 4))) [4])))
    (uFld Sum "own_constant" 0 (uG (uVar 3))))))))
def t_Sum__init (Sum : Addr) : TFO := uDefO [.b, .b, .b] 1 (u_Sum__init Sum)
abbrev S_Sum__init (K : PySem.W.Frag) (Sum : Addr) : Sp := SpO K [.b, .b, .b] (t_Sum__init Sum)
/-! Sum.modulus -/
abbrev st_Sum_modulus : Stmt := inClass (top 22) 3
theorem sc_Sum_modulus : FnScope ["self"] ["self"] (defScope st_Sum_modulus) := ⟨rfl, rfl, rfl, by decide +kernel, rfl, by decide +kernel, by decide +kernel⟩
def u_Sum_modulus (Sum : Addr) : US :=
    (uRet (uP (pFld Sum "own_modulus" (pVar 0))))
def t_Sum_modulus (Sum : Addr) : TF := uDef [.b] 0 (u_Sum_modulus Sum)
abbrev S_Sum_modulus (K : PySem.W.Frag) (Sum : Addr) : Sp := SpD K [.b] (t_Sum_modulus Sum)
/-! Sum.constant -/
abbrev st_Sum_constant : Stmt := inClass (top 22) 4
theorem sc_Sum_constant : FnScope ["self"] ["self"] (defScope st_Sum_constant) := ⟨rfl, rfl, rfl, by decide +kernel, rfl, by decide +kernel, by decide +kernel⟩
def u_Sum_constant (Sum : Addr) : US :=
    (uRet (uP (pFld Sum "own_constant" (pVar 0))))
def t_Sum_constant (Sum : Addr) : TF := uDef [.b] 0 (u_Sum_constant Sum)
abbrev S_Sum_constant (K : PySem.W.Frag) (Sum : Addr) : Sp := SpD K [.b] (t_Sum_constant Sum)
/-! Sum.is_constant -/
abbrev st_Sum_is_constant : Stmt := inClass (top 22) 5
theorem sc_Sum_is_constant : FnScope ["self"] ["self"] (defScope st_Sum_is_constant) := ⟨rfl, rfl, rfl, by decide +kernel, rfl, by decide +kernel, by decide +kernel⟩
def u_Sum_is_constant (Sum : Addr) : US :=
    (uRet (uS2 eqD (uP (pFld Sum "own_weights" (pVar 0))) (uO uDic0)))
def t_Sum_is_constant (Sum : Addr) : TF := uDef [.b] 0 (u_Sum_is_constant Sum)
abbrev S_Sum_is_constant (K : PySem.W.Frag) (Sum : Addr) : Sp := SpD K [.b] (t_Sum_is_constant Sum)
/-! Sum.weights -/
abbrev st_Sum_weights : Stmt := inClass (top 22) 6
theorem sc_Sum_weights : FnScope ["self"] ["self"] (defScope st_Sum_weights) := ⟨rfl, rfl, rfl, by decide +kernel, rfl, by decide +kernel, by decide +kernel⟩
def u_Sum_weights (Sum : Addr) : US :=
    (uRet (uFn dictD (uCons (uP (pFld Sum "own_weights" (pVar 0))) uNil)))
def t_Sum_weights (Sum : Addr) : TF := uDef [.b] 0 (u_Sum_weights Sum)
abbrev S_Sum_weights (K : PySem.W.Frag) (Sum : Addr) : Sp := SpD K [.b] (t_Sum_weights Sum)
/-! Sum.names -/
abbrev st_Sum_names : Stmt := inClass (top 22) 7
theorem sc_Sum_names : FnScope ["self"] ["self"] (defScope st_Sum_names) := ⟨rfl, rfl, rfl, by decide +kernel, rfl, by decide +kernel, by decide +kernel⟩
def u_Sum_names (Sum : Addr) : US :=
    (uRet (uFn listD (uCons (uP (pFld Sum "own_weights" (pVar 0))) uNil)))
def t_Sum_names (Sum : Addr) : TF := uDef [.b] 0 (u_Sum_names Sum)
abbrev S_Sum_names (K : PySem.W.Frag) (Sum : Addr) : Sp := SpD K [.b] (t_Sum_names Sum)
/-! Sum.weight -/
abbrev st_Sum_weight : Stmt := inClass (top 22) 8
theorem sc_Sum_weight : FnScope ["self", "name"] ["self", "name"] (defScope st_Sum_weight) := ⟨rfl, rfl, rfl, by decide +kernel, rfl, by decide +kernel, by decide +kernel⟩
def u_Sum_weight (Sum : Addr) : US :=
    (uRet (uIf (uB (uIs (isT [Sum] "str") (uVar 1))) (uGet2 (uP (pFld Sum "own_weights" (pVar 0))) (uVar 1) (uC (.int 0))) (uC (.int 0))))
def t_Sum_weight (Sum : Addr) : TF := uDef [.b, .b] 0 (u_Sum_weight Sum)
abbrev S_Sum_weight (K : PySem.W.Frag) (Sum : Addr) : Sp := SpD K [.b, .b] (t_Sum_weight Sum)
/-! Sum.want_alike -/
abbrev st_Sum_want_alike : Stmt := inClass (top 22) 9
theorem sc_Sum_want_alike : FnScope ["self", "other"] ["self", "other"] (defScope st_Sum_want_alike) := ⟨rfl, rfl, rfl, by decide +kernel, rfl, by decide +kernel, by decide +kernel⟩
def u_Sum_want_alike (Sum : Addr) : US :=
    (uSeq (uIfS (uNot (uB (uIs (isC Sum) (uVar 1)))) uNever uNext)
    (uIfS (uB (uS2 neD (uO (uProp Sum [.b] (t_Sum_modulus Sum) [] (uVar 1))) (uP (pFld Sum "own_modulus" (pVar 0))))) uNever uNext))
def t_Sum_want_alike (Sum : Addr) : TF := uDef [.b, .b] 0 (u_Sum_want_alike Sum)
abbrev S_Sum_want_alike (K : PySem.W.Frag) (Sum : Addr) : Sp := SpD K [.b, .b] (t_Sum_want_alike Sum)
/-! Sum.__mul__ -/
abbrev st_Sum__mul : Stmt := inClass (top 22) 13
theorem sc_Sum__mul : FnScope ["self", "number", "weights", "name", "weight"] ["self", "number"] (defScope st_Sum__mul) := ⟨rfl, rfl, rfl, by decide +kernel, rfl, by decide +kernel, by decide +kernel⟩
def u_Sum__mul (Sum : Addr) : US :=
    (uSeq (uIfS (uNot (uB (uCall [.b] (t_is_integer Sum) [] (uCons (uVar 1) uNil)))) uNever uNext)
    (uSeq (uNXS (uSet 2 (uDc (uItemsP (pFld Sum "own_weights" (pVar 0))) (gT (gsCons (gN 3) (gsCons (gN 4) gsNil)) 2) uYes (uG (uVar 3)) (uG (uS2 modI (uO (uS2 mulI (uVar 4) (uVar 1))) (uP (pFld Sum "own_modulus" (pVar 0))))) [3, 4])))
    (uRet (uMake Sum [.b, .b, .b] (t_Sum__init Sum) [] (uCons (uP (pFld Sum "own_modulus" (pVar 0))) (uCons (uVar 2) (uCons (uO (uS2 modI (uO (uS2 mulI (uP (pFld Sum "own_constant" (pVar 0))) (uVar 1))) (uP (pFld Sum "own_modulus" (pVar 0))))) uNil)))))))
def t_Sum__mul (Sum : Addr) : TF := uDef [.b, .b] 3 (u_Sum__mul Sum)
abbrev S_Sum__mul (K : PySem.W.Frag) (Sum : Addr) : Sp := SpD K [.b, .b] (t_Sum__mul Sum)
/-! Sum.__neg__ -/
abbrev st_Sum__neg : Stmt := inClass (top 22) 11
theorem sc_Sum__neg : FnScope ["self"] ["self"] (defScope st_Sum__neg) := ⟨rfl, rfl, rfl, by decide +kernel, rfl, by decide +kernel, by decide +kernel⟩
def u_Sum__neg (Sum : Addr) : US :=
    (uRet (uOwI Sum [.b, .b] (t_Sum__mul Sum) (uVar 0) (uO (uS1 negI (uC (.int 1))))))
def t_Sum__neg (Sum : Addr) : TF := uDef [.b] 0 (u_Sum__neg Sum)
abbrev S_Sum__neg (K : PySem.W.Frag) (Sum : Addr) : Sp := SpD K [.b] (t_Sum__neg Sum)
/-! Sum.__add__ -/
abbrev st_Sum__add : Stmt := inClass (top 22) 10
theorem sc_Sum__add : FnScope ["self", "other", "weights", "name", "weight"] ["self", "other"] (defScope st_Sum__add) := ⟨rfl, rfl, rfl, by decide +kernel, rfl, by decide +kernel, by decide +kernel⟩
def u_Sum__add (Sum : Addr) : US :=
    (uSeq (uExpr (uMeth Sum "want_alike" [.b, .b] (t_Sum_want_alike Sum) [] (uVar 0) (uCons (uVar 1) uNil)))
    (uSeq (uSet 2 (uFn dictD (uCons (uP (pFld Sum "own_weights" (pVar 0))) uNil)))
    (uSeq (uFor (uItemsF (uMeth Sum "weights" [.b] (t_Sum_weights Sum) [] (uVar 1) uNil)) (gT (gsCons (gN 3) (gsCons (gN 4) gsNil)) 2) (uPut 2 (uG (uS2 modI (uO (uS2 addI (uGet2 (uVar 2) (uVar 3) (uC (.int 0))) (uVar 4))) (uP (pFld Sum "own_modulus" (pVar 0))))) (uVar 3)))
    (uRet (uMake Sum [.b, .b, .b] (t_Sum__init Sum) [] (uCons (uP (pFld Sum "own_modulus" (pVar 0))) (uCons (uVar 2) (uCons (uO (uS2 modI (uO (uS2 addI (uP (pFld Sum "own_constant" (pVar 0))) (uO (uProp Sum [.b] (t_Sum_constant Sum) [] (uVar 1))))) (uP (pFld Sum "own_modulus" (pVar 0))))) uNil))))))))
def t_Sum__add (Sum : Addr) : TF := uDef [.b, .b] 3 (u_Sum__add Sum)
abbrev S_Sum__add (K : PySem.W.Frag) (Sum : Addr) : Sp := SpD K [.b, .b] (t_Sum__add Sum)
/-! Sum.__sub__ -/
abbrev st_Sum__sub : Stmt := inClass (top 22) 12
theorem sc_Sum__sub : FnScope ["self", "other"] ["self", "other"] (defScope st_Sum__sub) := ⟨rfl, rfl, rfl, by decide +kernel, rfl, by decide +kernel, by decide +kernel⟩
def u_Sum__sub (Sum : Addr) : US :=
    (uSeq (uExpr (uMeth Sum "want_alike" [.b, .b] (t_Sum_want_alike Sum) [] (uVar 0) (uCons (uVar 1) uNil)))
    (uRet (uOwB Sum [.b, .b] (t_Sum__add Sum) (uVar 0) (uO (uOwI Sum [.b, .b] (t_Sum__mul Sum) (uVar 1) (uO (uS1 negI (uC (.int 1)))))))))
def t_Sum__sub (Sum : Addr) : TF := uDef [.b, .b] 0 (u_Sum__sub Sum)
abbrev S_Sum__sub (K : PySem.W.Frag) (Sum : Addr) : Sp := SpD K [.b, .b] (t_Sum__sub Sum)
/-! Sum.at -/
abbrev st_Sum_at : Stmt := inClass (top 22) 14
theorem sc_Sum_at : FnScope ["self", "world", "total", "name", "weight"] ["self", "world"] (defScope st_Sum_at) := ⟨rfl, rfl, rfl, by decide +kernel, rfl, by decide +kernel, by decide +kernel⟩
def u_Sum_at (Sum : Addr) : US :=
    (uSeq (uIfS (uNot (uB (uCall [.b, .b] (t_is_world Sum) [] (uCons (uVar 1) (uCons (uP (pFld Sum "own_modulus" (pVar 0))) uNil))))) uNever uNext)
    (uSeq (uSet 2 (uP (pFld Sum "own_constant" (pVar 0))))
    (uSeq (uNXS (uFor (uItemsP (pFld Sum "own_weights" (pVar 0))) (gT (gsCons (gN 3) (gsCons (gN 4) gsNil)) 2) (uSeq (uIfS (uB (uS2 kninD (uVar 3) (uVar 1))) uNever uNext)
    (uAug (fun a b => a + b) 2 (uO (uS2 mulI (uVar 4) (uO (uE2 ixK (uVar 1) (uVar 3)))))))))
    (uRet (uS2 modI (uVar 2) (uP (pFld Sum "own_modulus" (pVar 0))))))))
def t_Sum_at (Sum : Addr) : TF := uDef [.b, .b] 3 (u_Sum_at Sum)
abbrev S_Sum_at (K : PySem.W.Frag) (Sum : Addr) : Sp := SpD K [.b, .b] (t_Sum_at Sum)
/-! Sum.put -/
abbrev st_Sum_put : Stmt := inClass (top 22) 15
theorem sc_Sum_put : FnScope ["self", "sums", "is_right", "name", "found", "weight"] ["self", "sums"] (defScope st_Sum_put) := ⟨rfl, rfl, rfl, by decide +kernel, rfl, by decide +kernel, by decide +kernel⟩
def u_Sum_put (Sum : Addr) : US :=
    (uSeq (uSet 2 (uIs (isT [Sum] "dict") (uVar 1)))
    (uSeq (uIfS (uOr (uNot (uB (uVar 2))) (uNot (uB (uSn allD (uCons (uO (uNX (uComp (uKeysP (pVar 1)) (gN 3) uYes (uG (uAndV (uCall [.b] (t_is_name Sum) [] (uCons (uVar 3) uNil)) (uCall [.b, .b] (t_is_sum Sum) [] (uCons (uO (uE2 ixK (uVar 1) (uVar 3))) (uCons (uP (pFld Sum "own_modulus" (pVar 0))) uNil))))) [3]))) uNil))))) uNever uNext)
    (uSeq (uSet 4 (uMake Sum [.b, .b, .b] (t_Sum__init Sum) [] (uCons (uP (pFld Sum "own_modulus" (pVar 0))) (uCons (uO uDic0) (uCons (uP (pFld Sum "own_constant" (pVar 0))) uNil)))))
    (uSeq (uNXS (uFor (uItemsP (pFld Sum "own_weights" (pVar 0))) (gT (gsCons (gN 3) (gsCons (gN 5) gsNil)) 2) (uSet 4 (uOwB Sum [.b, .b] (t_Sum__add Sum) (uVar 4) (uO (uOwI Sum [.b, .b] (t_Sum__mul Sum) (uGet2 (uVar 1) (uVar 3) (uO (uMake Sum [.b, .b] (t_Sum__init Sum) [.int 0] (uCons (uP (pFld Sum "own_modulus" (pVar 0))) (uCons (uO (uDic (uPs (uVar 3) (uG (uC (.int 1))) uPs0))) uNil))))) (uVar 5)))))))
    (uRet (uVar 4))))))
def t_Sum_put (Sum : Addr) : TF := uDef [.b, .b] 4 (u_Sum_put Sum)
abbrev S_Sum_put (K : PySem.W.Frag) (Sum : Addr) : Sp := SpD K [.b, .b] (t_Sum_put Sum)
/-! _law_rng -/
abbrev st_law_rng : Stmt := top 24
theorem sc_law_rng : FnScope ["script", "k", "cell"] ["script", "k"] (defScope st_law_rng) := ⟨rfl, rfl, rfl, by decide +kernel, rfl, by decide +kernel, by decide +kernel⟩
def u_law_rng (Sum : Addr) : US :=
    (uSeq (uSet 2 (uS2 addI (uO (uS2 mulI (uC (.int 13)) (uVar 1))) (uC (.int 7))))
    (uSeq (uIfS (uB (uS2 ltI (uVar 1) (uO (uSn lenD (uCons (uVar 0) uNil))))) (uSet 2 (uE2 ixLD (uVar 0) (uVar 1))) uNext)
    (uRet (uLst (uCons (uO (uSn maxD (uCons (uC (.int 0)) (uCons (uO (uS2 subI (uO (uSn absD (uCons (uVar 2) uNil))) (uO (uS2 powI (uC (.int 10)) (uC (.int 18)))))) uNil)))) (uCons (uO (uS2 addI (uO (uS2 modI (uO (uS2 mulI (uO (uSn intD (uCons (uO (uS2 addI (uO (uS2 modI (uO (uSn intD (uCons (uO (uSn absD (uCons (uVar 2) uNil))) uNil))) (uC (.int 2147483543)))) (uC (.int 1)))) uNil))) (uO (uS2 powI (uO (uS2 addI (uO (uS2 mulI (uC (.int 2)) (uVar 1))) (uC (.int 5)))) (uC (.int 3)))))) (uC (.int 2147483497)))) (uC (.int 1)))) uNil))))))
def t_law_rng (Sum : Addr) : TF := uDef [.b, .b] 1 (u_law_rng Sum)
abbrev S_law_rng (K : PySem.W.Frag) (Sum : Addr) : Sp := SpD K [.b, .b] (t_law_rng Sum)
/-! _law_draw -/
abbrev st_law_draw : Stmt := top 25
theorem sc_law_draw : FnScope ["rng", "many", "digit"] ["rng", "many"] (defScope st_law_draw) := ⟨rfl, rfl, rfl, by decide +kernel, rfl, by decide +kernel, by decide +kernel⟩
def u_law_draw (Sum : Addr) : US :=
    (uSeq (uIfS (uB (uS2 gtI (uO (uE2 ixLD (uVar 0) (uC (.int 0)))) (uC (.int 0)))) (uSeq (uAsg (uSn divmodD (uCons (uO (uE2 ixLD (uVar 0) (uC (.int 0)))) (uCons (uVar 1) uNil))) (gT (gsCons (gLPut 0 0) (gsCons (gN 2) gsNil)) 2))
    (uRet (uVar 2))) uNext)
    (uSeq (uLPut 0 (uG (uS2 modI (uO (uSn intD (uCons (uO (uS2 addI (uO (uS2 mulI (uO (uE2 ixLD (uVar 0) (uC (.int 1)))) (uC (.int 40692)))) (uC (.int 27011)))) uNil))) (uC (.int 2147483549)))) (uC (.int 1)))
    (uRet (uS2 modI (uO (uS2 fdivI (uO (uS2 modI (uO (uSn intD (uCons (uO (uS2 mulI (uO (uE2 ixLD (uVar 0) (uC (.int 1)))) (uO (uE2 ixLD (uVar 0) (uC (.int 1)))))) uNil))) (uC (.int 2147483477)))) (uC (.int 19)))) (uVar 1)))))
def t_law_draw (Sum : Addr) : TFO := uDefO [.b] 1 (u_law_draw Sum)
abbrev S_law_draw (K : PySem.W.Frag) (Sum : Addr) : Sp := SpO K [.b] (t_law_draw Sum)
/-! _law_some_names -/
abbrev st_law_some_names : Stmt := top 27
theorem sc_law_some_names : FnScope ["rng", "many", "found", "k", "size", "name", "turn"] ["rng", "many"] (defScope st_law_some_names) := ⟨rfl, rfl, rfl, by decide +kernel, rfl, by decide +kernel, by decide +kernel⟩
def u_law_some_names (Sum : Addr) : US :=
    (uSeq (uSet 2 (uLst uNil))
    (uSeq (uFor (uRng1 (uCons (uVar 1) uNil)) (gN 3) (uSeq (uSet 4 (uE2 ixLD (uO (uLst (uCons (uC (.int 0)) (uCons (uC (.int 1)) (uCons (uC (.int 2)) (uCons (uC (.int 11)) uNil)))))) (uO (uCallO 0 [.b] (t_law_draw Sum) [] (uCons (uVar 0) (uCons (uC (.int 4)) uNil))))))
    (uSeq (uSet 5 (uS2 ixSD (uC (.str "abcdefghijklmnopqrstuvwxyz")) (uO (uCallO 0 [.b] (t_law_draw Sum) [] (uCons (uVar 0) (uCons (uC (.int 26)) uNil))))))
    (uSeq (uSet 5 (uS2 addI (uVar 5) (uO (uJoin (uC (.str "")) (uO (uComp (uRng1 (uCons (uVar 4) uNil)) (gN 6) uYes (uG (uS2 ixSD (uC (.str "abcdefghijklmnopqrstuvwxyz0123456789")) (uO (uCallO 0 [.b] (t_law_draw Sum) [] (uCons (uVar 0) (uCons (uC (.int 36)) uNil)))))) [6]))))))
    (uIfS (uB (uS2 ninD (uVar 5) (uVar 2))) (uApp 2 (uG (uVar 5))) uNext)))))
    (uRet (uVar 2))))
def t_law_some_names (Sum : Addr) : TFO := uDefO [.b] 5 (u_law_some_names Sum)
abbrev S_law_some_names (K : PySem.W.Frag) (Sum : Addr) : Sp := SpO K [.b] (t_law_some_names Sum)
/-! _law_added -/
abbrev st_law_added : Stmt := top 29
theorem sc_law_added : FnScope ["one", "other", "by", "q", "weights", "name", "weight"] ["one", "other", "by", "q"] (defScope st_law_added) := ⟨rfl, rfl, rfl, by decide +kernel, rfl, by decide +kernel, by decide +kernel⟩
def u_law_added (Sum : Addr) : US :=
    (uSeq (uSet 4 uDic0)
    (uSeq (uFor (uItL (uEsc (uF2 catD (uO (uFn listD (uCons (uP (pIxT 0 (pVar 0))) uNil))) (uO (uFn listD (uCons (uP (pIxT 0 (pVar 1))) uNil)))))) (gN 5) (uSeq (uSet 6 (uS2 modI (uO (uSn intD (uCons (uO (uS2 addI (uGet2 (uP (pIxT 0 (pVar 0))) (uVar 5) (uC (.int 0))) (uO (uS2 mulI (uVar 2) (uGet2 (uP (pIxT 0 (pVar 1))) (uVar 5) (uC (.int 0))))))) uNil))) (uVar 3)))
    (uIfS (uB (uS2 neD (uVar 6) (uC (.int 0)))) (uPut 4 (uG (uVar 6)) (uVar 5)) uNext)))
    (uRet (uTup (uCons (uGO (uVar 4)) (uCons (uO (uS2 modI (uO (uSn intD (uCons (uO (uS2 addI (uP (pIxT 1 (pVar 0))) (uO (uS2 mulI (uVar 2) (uP (pIxT 1 (pVar 1))))))) uNil))) (uVar 3))) uNil))))))
def t_law_added (Sum : Addr) : TF := uDef [.b, .b, .b, .b] 3 (u_law_added Sum)
abbrev S_law_added (K : PySem.W.Frag) (Sum : Addr) : Sp := SpD K [.b, .b, .b, .b] (t_law_added Sum)
/-! _law_replaced -/
abbrev st_law_replaced : Stmt := top 30
theorem sc_law_replaced : FnScope ["model", "sums", "q", "found", "name", "weight"] ["model", "sums", "q"] (defScope st_law_replaced) := ⟨rfl, rfl, rfl, by decide +kernel, rfl, by decide +kernel, by decide +kernel⟩
def u_law_replaced (Sum : Addr) : US :=
    (uSeq (uSet 3 (uTup (uCons (uGO uDic0) (uCons (uP (pIxT 1 (pVar 0))) uNil))))
    (uSeq (uNXS (uFor (uItemsP (pIxT 0 (pVar 0))) (gT (gsCons (gN 4) (gsCons (gN 5) gsNil)) 2) (uSet 3 (uCall [.b, .b, .b, .b] (t_law_added Sum) [] (uCons (uVar 3) (uCons (uGet2 (uVar 1) (uVar 4) (uO (uTup (uCons (uGO (uDic (uPs (uVar 4) (uG (uC (.int 1))) uPs0))) (uCons (uC (.int 0)) uNil))))) (uCons (uVar 5) (uCons (uVar 2) uNil))))))))
    (uRet (uVar 3))))
def t_law_replaced (Sum : Addr) : TF := uDef [.b, .b, .b] 3 (u_law_replaced Sum)
abbrev S_law_replaced (K : PySem.W.Frag) (Sum : Addr) : Sp := SpD K [.b, .b, .b] (t_law_replaced Sum)
/-! _law_value -/
abbrev st_law_value : Stmt := top 31
theorem sc_law_value : FnScope ["model", "world", "q", "name", "weight"] ["model", "world", "q"] (defScope st_law_value) := ⟨rfl, rfl, rfl, by decide +kernel, rfl, by decide +kernel, by decide +kernel⟩
def u_law_value (Sum : Addr) : US :=
    (uRet (uS2 modI (uO (uSn intD (uCons (uO (uS2 addI (uO (uSn sumD (uCons (uO (uNX (uComp (uItemsP (pIxT 0 (pVar 0))) (gT (gsCons (gN 3) (gsCons (gN 4) gsNil)) 2) uYes (uG (uS2 mulI (uVar 4) (uO (uE2 ixK (uVar 1) (uVar 3))))) [3, 4]))) uNil))) (uP (pIxT 1 (pVar 0))))) uNil))) (uVar 2)))
def t_law_value (Sum : Addr) : TF := uDef [.b, .b, .b] 2 (u_law_value Sum)
abbrev S_law_value (K : PySem.W.Frag) (Sum : Addr) : Sp := SpD K [.b, .b, .b] (t_law_value Sum)
/-! _law_tells -/
abbrev st_law_tells : Stmt := top 32
theorem sc_law_tells : FnScope ["one", "model", "q", "turn", "told", "names", "name", "weight", "odd", "value"] ["one", "model", "q"] (defScope st_law_tells) := ⟨rfl, rfl, rfl, by decide +kernel, rfl, by decide +kernel, by decide +kernel⟩
def u_law_tells (Sum : Addr) : US :=
    (uSeq (uIfS (uB (uS2 neD (uO (uLst (uCons (uO (uProp Sum [.b] (t_Sum_modulus Sum) [] (uVar 0))) (uCons (uO (uProp Sum [.b] (t_Sum_constant Sum) [] (uVar 0))) (uCons (uO (uProp Sum [.b] (t_Sum_is_constant Sum) [] (uVar 0))) uNil))))) (uO (uLst (uCons (uVar 2) (uCons (uP (pIxT 1 (pVar 1))) (uCons (uO (uS2 eqD (uP (pIxT 0 (pVar 1))) (uO uDic0))) uNil))))))) (uRet (uC (.bl false))) uNext)
    (uSeq (uFor (uRng1 (uCons (uC (.int 2)) uNil)) (gN 3) (uSeq (uSet 4 (uMeth Sum "weights" [.b] (t_Sum_weights Sum) [] (uVar 0) uNil))
    (uSeq (uIfS (uOr (uNot (uB (uIs (isT [Sum] "dict") (uVar 4)))) (uB (uS2 neD (uO (uF1 litD (uVar 4))) (uO (uR1 sortItR (uP (pIxT 0 (pVar 1)))))))) (uRet (uC (.bl false))) uNext)
    (uSeq (uSet 5 (uMeth Sum "names" [.b] (t_Sum_names Sum) [] (uVar 0) uNil))
    (uSeq (uIfS (uOr (uNot (uB (uIs (isT [Sum] "list") (uVar 5)))) (uB (uS2 neD (uVar 5) (uO (uFr sortedR (uCons (uP (pIxT 0 (pVar 1))) uNil)))))) (uRet (uC (.bl false))) uNext)
    (uSeq (uClr 4)
    (uApp 5 (uG (uC (.str "zz"))))))))))
    (uSeq (uIfS (uB (uS2 neD (uO (uComp (uItL (uEsc (uFr sortedR (uCons (uP (pIxT 0 (pVar 1))) uNil)))) (gN 6) uYes (uG (uMeth Sum "weight" [.b, .b] (t_Sum_weight Sum) [] (uVar 0) (uCons (uVar 6) uNil))) [6])) (uO (uComp (uItL (uEsc (uR1 sortItR (uP (pIxT 0 (pVar 1)))))) (gT (gsCons (gN 6) (gsCons (gN 7) gsNil)) 2) uYes (uG (uVar 7)) [6, 7])))) (uRet (uC (.bl false))) uNext)
    (uSeq (uSet 8 (uLst (uCons (uC (.str "A")) (uCons (uC (.str "")) (uCons (uC (.str "a-")) (uCons (uC .non) (uCons (uC (.int 1)) (uCons (uC (.bl true)) (uCons (uGO (uLst (uCons (uC (.str "a")) uNil))) (uCons (uGO (uTup (uCons (uC (.str "a")) uNil))) (uCons (uGO (uDic (uPs (uC (.str "a")) (uG (uC (.int 1))) uPs0))) uNil)))))))))))
    (uRet (uAndV (uS2 eqD (uO (uComp (uItL (uEsc (uVar 8))) (gN 9) uYes (uG (uMeth Sum "weight" [.b, .b] (t_Sum_weight Sum) [] (uVar 0) (uCons (uVar 9) uNil))) [9])) (uO (uF2 repD (uO (uLst (uCons (uC (.int 0)) uNil))) (uO (uSn lenD (uCons (uVar 8) uNil)))))) (uS2 eqD (uO (uMeth Sum "weight" [.b, .b] (t_Sum_weight Sum) [] (uVar 0) (uCons (uC (.str "zz")) uNil))) (uGet2 (uP (pIxT 0 (pVar 1))) (uC (.str "zz")) (uC (.int 0))))))))))
def t_law_tells (Sum : Addr) : TF := uDef [.b, .b, .b] 7 (u_law_tells Sum)
abbrev S_law_tells (K : PySem.W.Frag) (Sum : Addr) : Sp := SpD K [.b, .b, .b] (t_law_tells Sum)
/-! _law_drawn -/
abbrev st_law_drawn : Stmt := top 28
theorem sc_law_drawn : FnScope ["rng", "names", "q", "handed", "name", "kept", "weight"] ["rng", "names", "q"] (defScope st_law_drawn) := ⟨rfl, rfl, rfl, by decide +kernel, rfl, by decide +kernel, by decide +kernel⟩
def u_law_drawn (Sum : Addr) : US :=
    (uSeq (uSet 3 uDic0)
    (uSeq (uFor (uItL (uEsc (uVar 1))) (gN 4) (uIfS (uB (uS2 gtI (uO (uCallO 0 [.b] (t_law_draw Sum) [] (uCons (uVar 0) (uCons (uC (.int 4)) uNil)))) (uC (.int 0)))) (uPut 3 (uG (uCallO 0 [.b] (t_law_draw Sum) [] (uCons (uVar 0) (uCons (uVar 2) uNil)))) (uVar 4)) uNext))
    (uSeq (uSet 5 (uFn dictD (uCons (uO (uLend 3 (uNX (uComp (uItemsP (pVar 3)) (gT (gsCons (gN 4) (gsCons (gN 6) gsNil)) 2) (uB (uS2 neD (uVar 6) (uC (.int 0)))) (uG (uTup (uCons (uVar 4) (uCons (uVar 6) uNil)))) [4, 6])))) uNil)))
    (uRet (uTup (uCons (uGO (uTup (uCons (uGO (uVar 5)) (uCons (uO (uCallO 0 [.b] (t_law_draw Sum) [] (uCons (uVar 0) (uCons (uVar 2) uNil)))) uNil)))) (uCons (uGO (uVar 3)) uNil)))))))
def t_law_drawn (Sum : Addr) : TFO := uDefO [.b, .b] 4 (u_law_drawn Sum)
abbrev S_law_drawn (K : PySem.W.Frag) (Sum : Addr) : Sp := SpO K [.b, .b] (t_law_drawn Sum)
/-! _law_drawn, mixed -/
def u_law_drawnM (Sum : Addr) : US :=
    (uSeq (uSet 3 uDic0)
    (uSeq (uFor (uItL (uEsc (uVar 1))) (gN 4) (uIfS (uB (uS2 gtI (uO (uCallO 0 [.b] (t_law_draw Sum) [] (uCons (uVar 0) (uCons (uC (.int 4)) uNil)))) (uC (.int 0)))) (uPut 3 (uG (uCallO 0 [.b] (t_law_draw Sum) [] (uCons (uVar 0) (uCons (uVar 2) uNil)))) (uVar 4)) uNext))
    (uSet 5 (uFn dictD (uCons (uO (uLend 3 (uNX (uComp (uItemsP (pVar 3)) (gT (gsCons (gN 4) (gsCons (gN 6) gsNil)) 2) (uB (uS2 neD (uVar 6) (uC (.int 0)))) (uG (uTup (uCons (uVar 4) (uCons (uVar 6) uNil)))) [4, 6])))) uNil)))))
def v_law_drawnM (Sum : Addr) : UG :=
    (uG (uTup (uCons (uGO (uVar 5)) (uCons (uO (uCallO 0 [.b] (t_law_draw Sum) [] (uCons (uVar 0) (uCons (uVar 2) uNil)))) uNil))))
def t_law_drawnM (Sum : Addr) : TFM := uDefM [.b, .b] 4 (u_law_drawnM Sum) (v_law_drawnM Sum) 3
abbrev S_law_drawnM (K : PySem.W.Frag) (Sum : Addr) : Sp := SpM K [.b, .b] (t_law_drawnM Sum)
/-! _law_values_right -/
abbrev st_law_values_right : Stmt := top 34
theorem sc_law_values_right : FnScope ["rng", "names", "pairs", "q", "world", "name", "kept", "sums", "models", "one", "model"] ["rng", "names", "pairs", "q"] (defScope st_law_values_right) := ⟨rfl, rfl, rfl, by decide +kernel, rfl, by decide +kernel, by decide +kernel⟩
def u_law_values_right (Sum : Addr) : US :=
    (uSeq (uSet 4 (uFn dictD (uCons (uO (uComp (uItL (uEsc (uF2 catD (uVar 1) (uO (uLst (uCons (uC (.str "further")) (uCons (uC (.str "a1a")) uNil))))))) (gN 5) uYes (uG (uTup (uCons (uVar 5) (uCons (uO (uCallO 0 [.b] (t_law_draw Sum) [] (uCons (uVar 0) (uCons (uVar 3) uNil)))) uNil)))) [5])) uNil)))
    (uSeq (uSet 6 (uFn dictD (uCons (uVar 4) uNil)))
    (uSeq (uPar 7 8 uDic0 uDic0)
    (uSeq (uFor (uItL (uEsc (uF2 catD (uVar 1) (uO (uLst (uCons (uC (.str "q9")) uNil)))))) (gN 5) (uIfS (uB (uS2 gtI (uO (uCallO 0 [.b] (t_law_draw Sum) [] (uCons (uVar 0) (uCons (uC (.int 3)) uNil)))) (uC (.int 0)))) (uSeq (uPut 8 (uG (uE2 ixTD (uO (uCallO 0 [.b, .b] (t_law_drawn Sum) [] (uCons (uVar 0) (uCons (uVar 1) (uCons (uVar 3) uNil))))) (uC (.int 0)))) (uVar 5))
    (uPut 7 (uG (uMake Sum [.b, .b, .b] (t_Sum__init Sum) [] (uCons (uVar 3) (uCons (uO (uE2 ixTD (uO (uE2 ixK (uVar 8) (uVar 5))) (uC (.int 0)))) (uCons (uO (uE2 ixTD (uO (uE2 ixK (uVar 8) (uVar 5))) (uC (.int 1)))) uNil))))) (uVar 5))) uNext))
    (uSeq (uFor (uItL (uEsc (uVar 2))) (gT (gsCons (gN 9) (gsCons (gN 10) gsNil)) 2) (uSeq (uIfS (uOr (uB (uS2 neD (uO (uMeth Sum "at" [.b, .b] (t_Sum_at Sum) [] (uVar 9) (uCons (uVar 4) uNil))) (uO (uCall [.b, .b, .b] (t_law_value Sum) [] (uCons (uVar 10) (uCons (uVar 4) (uCons (uVar 3) uNil))))))) (uB (uS2 neD (uO (uMeth Sum "at" [.b, .b] (t_Sum_at Sum) [] (uVar 9) (uCons (uO (uFn dictD (uCons (uO (uF1 revD (uO (uF1 litD (uVar 4))))) uNil))) uNil))) (uO (uMeth Sum "at" [.b, .b] (t_Sum_at Sum) [] (uVar 9) (uCons (uVar 4) uNil)))))) (uRet (uC (.bl false))) uNext)
    (uSeq (uIfS (uOr (uNot (uB (uCall [.b, .b, .b] (t_law_tells Sum) [] (uCons (uO (uMeth Sum "put" [.b, .b] (t_Sum_put Sum) [] (uVar 9) (uCons (uVar 7) uNil))) (uCons (uO (uCall [.b, .b, .b] (t_law_replaced Sum) [] (uCons (uVar 10) (uCons (uVar 8) (uCons (uVar 3) uNil))))) (uCons (uVar 3) uNil)))))) (uNot (uB (uCall [.b, .b, .b] (t_law_tells Sum) [] (uCons (uVar 9) (uCons (uVar 10) (uCons (uVar 3) uNil))))))) (uRet (uC (.bl false))) uNext)
    (uIfS (uNot (uB (uCall [.b, .b, .b] (t_law_tells Sum) [] (uCons (uO (uMeth Sum "put" [.b, .b] (t_Sum_put Sum) [] (uVar 9) (uCons (uO uDic0) uNil))) (uCons (uVar 10) (uCons (uVar 3) uNil)))))) (uRet (uC (.bl false))) uNext))))
    (uRet (uAndV (uS2 eqD (uVar 4) (uVar 6)) (uS2 eqD (uO (uFr sortedR (uCons (uVar 7) uNil))) (uO (uFr sortedR (uCons (uVar 8) uNil)))))))))))
def t_law_values_right (Sum : Addr) : TFO := uDefO [.b, .b, .b] 7 (u_law_values_right Sum)
abbrev S_law_values_right (K : PySem.W.Frag) (Sum : Addr) : Sp := SpO K [.b, .b, .b] (t_law_values_right Sum)
/-! _law_right -/
abbrev st_law_right : Stmt := top 33
theorem sc_law_right : FnScope ["rng", "q", "names", "first", "handed", "second", "other_handed", "one", "other", "by", "turn", "pairs", "number", "told", "model"] ["rng"] (defScope st_law_right) := ⟨rfl, rfl, rfl, by decide +kernel, rfl, by decide +kernel, by decide +kernel⟩
def u_law_right (Sum : Addr) : US :=
    (uSeq (uSet 1 (uE2 ixLD (uO (uLst (uCons (uC (.int 2)) (uCons (uC (.int 3)) (uCons (uC (.int 5)) (uCons (uC (.int 7)) (uCons (uC (.int 11)) (uCons (uC (.int 13)) uNil)))))))) (uO (uCallO 0 [.b] (t_law_draw Sum) [] (uCons (uVar 0) (uCons (uC (.int 6)) uNil))))))
    (uSeq (uSet 2 (uCallO 0 [.b] (t_law_some_names Sum) [] (uCons (uVar 0) (uCons (uO (uS2 addI (uC (.int 1)) (uO (uCallO 0 [.b] (t_law_draw Sum) [] (uCons (uVar 0) (uCons (uC (.int 6)) uNil)))))) uNil))))
    (uSeq (uMix 0 [.b, .b] (t_law_drawnM Sum) (uCons (uVar 0) (uCons (uVar 2) (uCons (uVar 1) uNil))) 3 4 5 6)
    (uSeq (uAsg (uTup (uCons (uGO (uMake Sum [.b, .b, .b] (t_Sum__init Sum) [] (uCons (uVar 1) (uCons (uVar 4) (uCons (uP (pIxT 1 (pVar 3))) uNil))))) (uCons (uGO (uMake Sum [.b, .b, .b] (t_Sum__init Sum) [] (uCons (uVar 1) (uCons (uO (uFn dictD (uCons (uO (uF1 revD (uO (uF1 litD (uVar 6))))) uNil))) (uCons (uP (pIxT 1 (pVar 5))) uNil))))) uNil))) (gT (gsCons (gN 7) (gsCons (gN 8) gsNil)) 2))
    (uSeq (uClr 4)
    (uSeq (uSet 9 (uLst (uCons (uO (uCallO 0 [.b] (t_law_draw Sum) [] (uCons (uVar 0) (uCons (uVar 1) uNil)))) (uCons (uO (uS2 subI (uO (uS1 negI (uC (.int 1)))) (uO (uCallO 0 [.b] (t_law_draw Sum) [] (uCons (uVar 0) (uCons (uC (.int 3)) uNil)))))) (uCons (uO (uS2 addI (uO (uS2 powI (uC (.int 10)) (uC (.int 24)))) (uO (uCallO 0 [.b] (t_law_draw Sum) [] (uCons (uVar 0) (uCons (uC (.int 99)) uNil)))))) (uCons (uO (uS2 subI (uO (uS1 negI (uO (uS2 powI (uC (.int 10)) (uC (.int 9)))))) (uO (uCallO 0 [.b] (t_law_draw Sum) [] (uCons (uVar 0) (uCons (uC (.int 99)) uNil)))))) (uCons (uC (.int 0)) uNil)))))))
    (uSeq (uFor (uRng1 (uCons (uC (.int 2)) uNil)) (gN 10) (uSeq (uSet 11 (uLst (uCons (uGO (uTup (uCons (uGO (uVar 7)) (uCons (uGO (uVar 3)) uNil)))) (uCons (uGO (uTup (uCons (uGO (uVar 8)) (uCons (uGO (uVar 5)) uNil)))) (uCons (uGO (uTup (uCons (uGO (uOwB Sum [.b, .b] (t_Sum__add Sum) (uVar 7) (uVar 8))) (uCons (uGO (uCall [.b, .b, .b, .b] (t_law_added Sum) [] (uCons (uVar 3) (uCons (uVar 5) (uCons (uC (.int 1)) (uCons (uVar 1) uNil)))))) uNil)))) uNil)))))
    (uSeq (uSet 11 (uF2 catD (uVar 11) (uO (uLst (uCons (uGO (uTup (uCons (uGO (uOwB Sum [.b, .b] (t_Sum__sub Sum) (uVar 7) (uVar 8))) (uCons (uGO (uCall [.b, .b, .b, .b] (t_law_added Sum) [] (uCons (uVar 3) (uCons (uVar 5) (uCons (uO (uS1 negI (uC (.int 1)))) (uCons (uVar 1) uNil)))))) uNil)))) (uCons (uGO (uTup (uCons (uGO (uOwN Sum [.b] (t_Sum__neg Sum) (uVar 7))) (uCons (uGO (uCall [.b, .b, .b, .b] (t_law_added Sum) [] (uCons (uO (uTup (uCons (uGO uDic0) (uCons (uC (.int 0)) uNil)))) (uCons (uVar 3) (uCons (uO (uS1 negI (uC (.int 1)))) (uCons (uVar 1) uNil)))))) uNil)))) uNil))))))
    (uSeq (uSet 11 (uF2 catD (uVar 11) (uO (uComp (uItL (uEsc (uVar 9))) (gN 12) uYes (uG (uTup (uCons (uGO (uOwI Sum [.b, .b] (t_Sum__mul Sum) (uVar 7) (uVar 12))) (uCons (uGO (uCall [.b, .b, .b, .b] (t_law_added Sum) [] (uCons (uO (uTup (uCons (uGO uDic0) (uCons (uC (.int 0)) uNil)))) (uCons (uVar 3) (uCons (uVar 12) (uCons (uVar 1) uNil)))))) uNil)))) [12]))))
    (uSeq (uSet 11 (uF2 catD (uVar 11) (uO (uLst (uCons (uGO (uTup (uCons (uGO (uOwB Sum [.b, .b] (t_Sum__add Sum) (uVar 7) (uVar 7))) (uCons (uGO (uCall [.b, .b, .b, .b] (t_law_added Sum) [] (uCons (uVar 3) (uCons (uVar 3) (uCons (uC (.int 1)) (uCons (uVar 1) uNil)))))) uNil)))) (uCons (uGO (uTup (uCons (uGO (uOwB Sum [.b, .b] (t_Sum__sub Sum) (uVar 8) (uVar 8))) (uCons (uGO (uTup (uCons (uGO uDic0) (uCons (uC (.int 0)) uNil)))) uNil)))) uNil))))))
    (uIfS (uNot (uB (uSn allD (uCons (uO (uComp (uItL (uEsc (uVar 11))) (gT (gsCons (gN 13) (gsCons (gN 14) gsNil)) 2) uYes (uG (uCall [.b, .b, .b] (t_law_tells Sum) [] (uCons (uVar 13) (uCons (uVar 14) (uCons (uVar 1) uNil))))) [13, 14])) uNil)))) (uRet (uC (.bl false))) uNext))))))
    (uRet (uCallO 0 [.b, .b, .b] (t_law_values_right Sum) [] (uCons (uVar 0) (uCons (uVar 2) (uCons (uO (uLst (uCons (uGO (uTup (uCons (uGO (uVar 7)) (uCons (uGO (uVar 3)) uNil)))) (uCons (uGO (uTup (uCons (uGO (uVar 8)) (uCons (uGO (uVar 5)) uNil)))) uNil)))) (uCons (uVar 1) uNil)))))))))))))
def t_law_right (Sum : Addr) : TFO := uDefO [] 14 (u_law_right Sum)
abbrev S_law_right (K : PySem.W.Frag) (Sum : Addr) : Sp := SpO K [] (t_law_right Sum)
/-! law -/
abbrev st_law : Stmt := top 35
theorem sc_law : FnScope ["script", "k", "rng", "turn"] ["script"] (defScope st_law) := ⟨rfl, rfl, rfl, by decide +kernel, rfl, by decide +kernel, by decide +kernel⟩
def u_law (Sum : Addr) : US :=
    (uSeq (uFor (uRng1 (uCons (uO (uSn maxD (uCons (uC (.int 1)) (uCons (uO (uSn minD (uCons (uC (.int 3)) (uCons (uO (uSn lenD (uCons (uVar 0) uNil))) uNil)))) uNil)))) uNil)) (gN 1) (uSeq (uSet 2 (uCall [.b, .b] (t_law_rng Sum) [] (uCons (uVar 0) (uCons (uVar 1) uNil))))
    (uFor (uRng1 (uCons (uC (.int 3)) uNil)) (gN 3) (uIfS (uNot (uB (uCallO 2 [] (t_law_right Sum) [] (uCons (uVar 2) uNil)))) (uRet (uC (.bl false))) uNext))))
    (uRet (uC (.bl true))))
def t_law (Sum : Addr) : TF := uDef [.g] 3 (u_law Sum)
abbrev S_law (K : PySem.W.Frag) (Sum : Addr) : Sp := SpD K [.g] (t_law Sum)

end K11

set_option Elab.async false
set_option linter.all false
set_option maxRecDepth 100000
set_option maxHeartbeats 4000000
namespace K11
open PySem PySem.Spec L2 PyProof.Rows QD
theorem ok_is_integer {P : Program} {w : World} {K : PySem.W.Frag} {mg : Str → Option Value} {base : Heap} {Sum f : Addr} {fd : FuncData} (T : Txt K mg Sum)  (F : FunU K "is_integer" st_is_integer f fd) :
    FnOk P w K mg base CX0 1 f fd ["value"] (S_is_integer K Sum) :=
  fn_d (u := u_is_integer Sum) F sc_is_integer rfl 0 rfl fun cdv A outer s H E hr => by
    have hu := hu_of hr
    have hu64 := hr.units
    exact (dss_one (ds_ret (dx_and (dx_isi (pe_bltn (v := .ty "int") (by rfl) T.m_int boot_int rfl) (s_isT T.fs "int") (do_var 0) (by rfl) T.m_isinstance boot_isinstance) (dx_one (dx_not (dx_isi (pe_bltn (v := .ty "bool") (by rfl) T.m_bool boot_bool rfl) (s_isT T.fs "bool") (do_var 0) (by rfl) T.m_isinstance boot_isinstance)) pe_one))))
end K11

set_option Elab.async false
set_option linter.all false
set_option maxRecDepth 100000
set_option maxHeartbeats 4000000
namespace K11
open PySem PySem.Spec L2 PyProof.Rows QD
theorem ok_is_number {P : Program} {w : World} {K : PySem.W.Frag} {mg : Str → Option Value} {base : Heap} {Sum f : Addr} {fd : FuncData} (T : Txt K mg Sum) (c_is_integer : Cal P w K mg base 1 "is_integer" ["value"] (S_is_integer K Sum)) (F : FunU K "is_number" st_is_number f fd) :
    FnOk P w K mg base CX0 2 f fd ["value", "modulus"] (S_is_number K Sum) :=
  fn_d (u := u_is_number Sum) F sc_is_number rfl 0 rfl fun cdv A outer s H E hr => by
    have hu := hu_of hr
    have hu64 := hr.units
    exact (dss_one (ds_ret (dx_and (dx_f c_is_integer (hr.mono (by decide)) (da_cons (do_var 0) da_nil)) (dx_one (dx_chain op_le op_lt s_le s_lt do_int (do_var 0) (do_var 1)) pe_one))))
end K11

set_option Elab.async false
set_option linter.all false
set_option maxRecDepth 100000
set_option maxHeartbeats 4000000
namespace K11
open PySem PySem.Spec L2 PyProof.Rows QD
theorem ok_is_name {P : Program} {w : World} {K : PySem.W.Frag} {mg : Str → Option Value} {base : Heap} {Sum f : Addr} {fd : FuncData} (T : Txt K mg Sum)  (F : FunU K "is_name" st_is_name f fd) :
    FnOk P w K mg base CX0 1 f fd ["value"] (S_is_name K Sum) :=
  fn_d (u := u_is_name Sum) F sc_is_name rfl 1 rfl fun cdv A outer s H E hr => by
    have hu := hu_of hr
    have hu64 := hr.units
    exact (dss_cons (ds_if (dt_w (dw_or (dt_not (dt_val (dx_isi (pe_bltn (v := .ty "str") (by rfl) T.m_str boot_str rfl) (s_isT T.fs "str") (do_var 0) (by rfl) T.m_isinstance boot_isinstance))) (dw_or (dt_not (dt_chain op_le op_le s_le s_le do_int (do_of (dx_cbS (fun p => pe_callB c_len (by rfl) T.m_len boot_len p) s_len (da_cons (do_var 0) da_nil))) (do_gint T.g_LONGEST_NAME))) (dw_or1 (dt_cmp o_nin s_nin (by first | exact nobehind _ (by decide) (by decide) | rfl) (do_of (dx_ixS (fun _ _ => rfl) (do_var 0) do_int)) (do_gstr T.g_LETTERS)))))) (dss_one (ds_ret (dx_of do_bl))) dss_nil)
      (dss_one (ds_ret (dx_cbS (fun p => pe_callB (cr_all rfl) (by rfl) T.m_all boot_all p) s_all (da_cons (do_of (dx_z (dx_lcz (fun pi pg pt p => pe_lc (own := [("sign", 1)]) rfl sc_is_name.nd pi (blkOk_by (N := ["value", "sign"]) (sc := defScope st_is_name) (by decide +kernel)) pg pt p) (di_str (dx_of (do_var 0))) (fun s H C cl fp => (dtg_name 1 sc_is_name.nd)) (by decide) (fun s H C cl fp => dts_nil) (fun s H C cl fp => (dg_of (dx_cmp o_in s_in (by first | exact nobehind _ (by decide) (by decide) | rfl) (do_var 1) (do_gstr T.g_NAME_SIGNS))))))) da_nil)))))
end K11

set_option Elab.async false
set_option linter.all false
set_option maxRecDepth 100000
set_option maxHeartbeats 4000000
namespace K11
open PySem PySem.Spec L2 PyProof.Rows QD
theorem ok_is_world {P : Program} {w : World} {K : PySem.W.Frag} {mg : Str → Option Value} {base : Heap} {Sum f : Addr} {fd : FuncData} (T : Txt K mg Sum) (c_is_name : Cal P w K mg base 1 "is_name" ["value"] (S_is_name K Sum)) (c_is_number : Cal P w K mg base 2 "is_number" ["value", "modulus"] (S_is_number K Sum)) (F : FunU K "is_world" st_is_world f fd) :
    FnOk P w K mg base CX0 3 f fd ["value", "modulus"] (S_is_world K Sum) :=
  fn_d (u := u_is_world Sum) F sc_is_world rfl 2 rfl fun cdv A outer s H E hr => by
    have hu := hu_of hr
    have hu64 := hr.units
    exact (dss_cons (ds_if (dt_not (dt_val (dx_isi (pe_bltn (v := .ty "dict") (by rfl) T.m_dict boot_dict rfl) (s_isT T.fs "dict") (do_var 0) (by rfl) T.m_isinstance boot_isinstance))) (dss_one (ds_ret (dx_of do_bl))) dss_nil)
      (dss_one (ds_ret (dx_cbS (fun p => pe_callB (cr_all rfl) (by rfl) T.m_all boot_all p) s_all (da_cons (do_of (dx_lockP (dp_var 0) (fun h => (dx_lcz (fun pi pg pt p => pe_lc (own := [("name", 2), ("number", 3)]) rfl sc_is_world.nd pi (blkOk_by (N := ["value", "modulus", "name", "number"]) (sc := defScope st_is_world) (by decide +kernel)) pg pt p) (di_itemsP h (fun p => pi_items p)) (fun s H C cl fp => (dtg_tup rfl (dtgs_cons (dtg_name 2 sc_is_world.nd) (dtgs_cons (dtg_name 3 sc_is_world.nd) dtgs_nil)))) (by decide) (fun s H C cl fp => dts_nil) (fun s H C cl fp => (dg_of (dx_and (dx_f c_is_name (hr.mono (by decide)) (da_cons (do_var 2) da_nil)) (dx_one (dx_f c_is_number (hr.mono (by decide)) (da_cons (do_var 3) (da_cons (do_var 1) da_nil))) pe_one)))))) (fun _ _ _ h => let ⟨a, kds, h, _⟩ := h; ⟨a, kds, h⟩))) da_nil)))))
end K11

set_option Elab.async false
set_option linter.all false
set_option maxRecDepth 100000
set_option maxHeartbeats 4000000
namespace K11
open PySem PySem.Spec L2 PyProof.Rows QD
theorem ok_is_sum {P : Program} {w : World} {K : PySem.W.Frag} {mg : Str → Option Value} {base : Heap} {Sum f : Addr} {fd : FuncData} (T : Txt K mg Sum)  (F : FunU K "is_sum" st_is_sum f fd) :
    FnOk P w K mg base CX0 1 f fd ["value", "modulus"] (S_is_sum K Sum) :=
  fn_d (u := u_is_sum Sum) F sc_is_sum rfl 0 rfl fun cdv A outer s H E hr => by
    have hu := hu_of hr
    have hu64 := hr.units
    exact (dss_one (ds_ret (dx_and (dx_isi (pe_glob (v := .ref Sum) (by rfl) T.Sum_mg rfl) (s_isC T.Sum_f) (do_var 0) (by rfl) T.m_isinstance boot_isinstance) (dx_one (dx_cmp (o_eq hu64) s_eq (by first | exact nobehind _ (by decide) (by decide) | rfl) (do_p (dp_fld (dp_var 0) T.Sum_cls T.Sum_na_own_modulus)) (do_var 1)) pe_one))))
end K11

set_option Elab.async false
set_option linter.all false
set_option maxRecDepth 100000
set_option maxHeartbeats 4000000
namespace K11
open PySem PySem.Spec L2 PyProof.Rows QD
theorem ok_want_modulus {P : Program} {w : World} {K : PySem.W.Frag} {mg : Str → Option Value} {base : Heap} {Sum f : Addr} {fd : FuncData} (T : Txt K mg Sum) (c_is_integer : Cal P w K mg base 1 "is_integer" ["value"] (S_is_integer K Sum)) (F : FunU K "want_modulus" st_want_modulus f fd) :
    FnOk P w K mg base CX0 2 f fd ["value"] (S_want_modulus K Sum) :=
  fn_d (u := u_want_modulus Sum) F sc_want_modulus rfl 0 rfl fun cdv A outer s H E hr => by
    have hu := hu_of hr
    have hu64 := hr.units
    exact (dss_one (ds_if (dt_w (dw_or (dt_not (dt_val (dx_f c_is_integer (hr.mono (by decide)) (da_cons (do_var 0) da_nil)))) (dw_or1 (dt_cmp o_nin s_nin (by first | exact nobehind _ (by decide) (by decide) | rfl) (do_var 0) (do_gtup T.g_MODULI))))) (dss_one ds_never) dss_nil))
end K11

set_option Elab.async false
set_option linter.all false
set_option maxRecDepth 100000
set_option maxHeartbeats 4000000
namespace K11
open PySem PySem.Spec L2 PyProof.Rows QD
theorem ok_Sum__init {P : Program} {w : World} {K : PySem.W.Frag} {mg : Str → Option Value} {base : Heap} {Sum f : Addr} {fd : FuncData} (T : Txt K mg Sum) (c_is_number : Cal P w K mg base 2 "is_number" ["value", "modulus"] (S_is_number K Sum)) (c_is_world : Cal P w K mg base 3 "is_world" ["value", "modulus"] (S_is_world K Sum)) (c_want_modulus : Cal P w K mg base 2 "want_modulus" ["value"] (S_want_modulus K Sum)) (F : FunU K "Sum.__init__" st_Sum__init f fd) :
    FnOk P w K mg base CX0 4 f fd ["self", "modulus", "weights", "constant"] (S_Sum__init K Sum) :=
  fn_o (u := u_Sum__init Sum) F sc_Sum__init rfl 1 rfl fun cdv A outer s H E hr => by
    have hu := hu_of hr
    have hu64 := hr.units
    exact (dss_cons (ds_expr (dx_f c_want_modulus (hr.mono (by decide)) (da_cons (do_var 1) da_nil)))
      (dss_cons (ds_if (dt_not (dt_val (dx_f c_is_world (hr.mono (by decide)) (da_cons (do_var 2) (da_cons (do_var 1) da_nil))))) (dss_one ds_never) dss_nil)
      (dss_cons (ds_if (dt_not (dt_val (dx_f c_is_number (hr.mono (by decide)) (da_cons (do_var 3) (da_cons (do_var 1) da_nil))))) (dss_one ds_never) dss_nil)
      (dss_cons (ds_fld 0 (dg_of (dx_of (do_var 1))) T.Sum_cls T.Sum_na_own_modulus (fun p => ps_fld (pv 0) p rfl))
      (dss_cons (ds_fld 0 (dg_of (dx_z (dx_dcz (fun pi pg pt p p2 => pe_dc (own := [("name", 4)]) rfl sc_Sum__init.nd pi (blkOk_by (N := ["self", "modulus", "weights", "constant", "name"]) (sc := defScope st_Sum__init) (by decide +kernel)) pg pt p p2) (di_list (db_of (dx_cbR (fun p => pe_callB (c_sorted rfl) (by rfl) T.m_sorted boot_sorted p) f_sorted (da_cons (do_var 2) da_nil)))) (fun s H C cl fp => (dtg_name 4 sc_Sum__init.nd)) (by decide) (fun s H C cl fp => (dts_one (dt_cmp (o_ne hu64) s_ne (by first | exact nobehind _ (by decide) (by decide) | rfl) (do_of (dx_dget hu (fun _ _ => rfl) (do_var 2) (do_var 4))) do_int))) (fun s H C cl fp => (dg_of (dx_of (do_var 4)))) (fun s H C cl fp => (dg_of (dx_dget hu (fun _ _ => rfl) (do_var 2) (do_var 4))))))) T.Sum_cls T.Sum_na_own_weights (fun p => ps_fld (pv 0) p rfl))
      (dss_one (ds_fld 0 (dg_of (dx_of (do_var 3))) T.Sum_cls T.Sum_na_own_constant (fun p => ps_fld (pv 0) p rfl))))))))
end K11

set_option Elab.async false
set_option linter.all false
set_option maxRecDepth 100000
set_option maxHeartbeats 4000000
namespace K11
open PySem PySem.Spec L2 PyProof.Rows QD
theorem ok_Sum_modulus {P : Program} {w : World} {K : PySem.W.Frag} {mg : Str → Option Value} {base : Heap} {Sum f : Addr} {fd : FuncData} (T : Txt K mg Sum)  (F : FunU K "Sum.modulus" st_Sum_modulus f fd) :
    FnOk P w K mg base CX0 1 f fd ["self"] (S_Sum_modulus K Sum) :=
  fn_d (u := u_Sum_modulus Sum) F sc_Sum_modulus rfl 0 rfl fun cdv A outer s H E hr => by
    have hu := hu_of hr
    have hu64 := hr.units
    exact (dss_one (ds_ret (dx_of (do_p (dp_fld (dp_var 0) T.Sum_cls T.Sum_na_own_modulus)))))
end K11

set_option Elab.async false
set_option linter.all false
set_option maxRecDepth 100000
set_option maxHeartbeats 4000000
namespace K11
open PySem PySem.Spec L2 PyProof.Rows QD
theorem ok_Sum_constant {P : Program} {w : World} {K : PySem.W.Frag} {mg : Str → Option Value} {base : Heap} {Sum f : Addr} {fd : FuncData} (T : Txt K mg Sum)  (F : FunU K "Sum.constant" st_Sum_constant f fd) :
    FnOk P w K mg base CX0 1 f fd ["self"] (S_Sum_constant K Sum) :=
  fn_d (u := u_Sum_constant Sum) F sc_Sum_constant rfl 0 rfl fun cdv A outer s H E hr => by
    have hu := hu_of hr
    have hu64 := hr.units
    exact (dss_one (ds_ret (dx_of (do_p (dp_fld (dp_var 0) T.Sum_cls T.Sum_na_own_constant)))))
end K11

set_option Elab.async false
set_option linter.all false
set_option maxRecDepth 100000
set_option maxHeartbeats 4000000
namespace K11
open PySem PySem.Spec L2 PyProof.Rows QD
theorem ok_Sum_is_constant {P : Program} {w : World} {K : PySem.W.Frag} {mg : Str → Option Value} {base : Heap} {Sum f : Addr} {fd : FuncData} (T : Txt K mg Sum)  (F : FunU K "Sum.is_constant" st_Sum_is_constant f fd) :
    FnOk P w K mg base CX0 1 f fd ["self"] (S_Sum_is_constant K Sum) :=
  fn_d (u := u_Sum_is_constant Sum) F sc_Sum_is_constant rfl 0 rfl fun cdv A outer s H E hr => by
    have hu := hu_of hr
    have hu64 := hr.units
    exact (dss_one (ds_ret (dx_cmp (o_eq hu64) s_eq (by first | exact nobehind _ (by decide) (by decide) | rfl) (do_p (dp_fld (dp_var 0) T.Sum_cls T.Sum_na_own_weights)) (do_of dx_dic0))))
end K11

set_option Elab.async false
set_option linter.all false
set_option maxRecDepth 100000
set_option maxHeartbeats 4000000
namespace K11
open PySem PySem.Spec L2 PyProof.Rows QD
theorem ok_Sum_weights {P : Program} {w : World} {K : PySem.W.Frag} {mg : Str → Option Value} {base : Heap} {Sum f : Addr} {fd : FuncData} (T : Txt K mg Sum)  (F : FunU K "Sum.weights" st_Sum_weights f fd) :
    FnOk P w K mg base CX0 1 f fd ["self"] (S_Sum_weights K Sum) :=
  fn_d (u := u_Sum_weights Sum) F sc_Sum_weights rfl 0 rfl fun cdv A outer s H E hr => by
    have hu := hu_of hr
    have hu64 := hr.units
    exact (dss_one (ds_ret (dx_cbF (fun p => pe_callTy (c_dict rfl) (by rfl) T.m_dict boot_dict p) f_dict (da_cons (do_p (dp_fld (dp_var 0) T.Sum_cls T.Sum_na_own_weights)) da_nil))))
end K11

set_option Elab.async false
set_option linter.all false
set_option maxRecDepth 100000
set_option maxHeartbeats 4000000
namespace K11
open PySem PySem.Spec L2 PyProof.Rows QD
theorem ok_Sum_names {P : Program} {w : World} {K : PySem.W.Frag} {mg : Str → Option Value} {base : Heap} {Sum f : Addr} {fd : FuncData} (T : Txt K mg Sum)  (F : FunU K "Sum.names" st_Sum_names f fd) :
    FnOk P w K mg base CX0 1 f fd ["self"] (S_Sum_names K Sum) :=
  fn_d (u := u_Sum_names Sum) F sc_Sum_names rfl 0 rfl fun cdv A outer s H E hr => by
    have hu := hu_of hr
    have hu64 := hr.units
    exact (dss_one (ds_ret (dx_cbF (fun p => pe_callTy (c_list rfl) (by rfl) T.m_list boot_list p) f_list (da_cons (do_p (dp_fld (dp_var 0) T.Sum_cls T.Sum_na_own_weights)) da_nil))))
end K11

set_option Elab.async false
set_option linter.all false
set_option maxRecDepth 100000
set_option maxHeartbeats 4000000
namespace K11
open PySem PySem.Spec L2 PyProof.Rows QD
theorem ok_Sum_weight {P : Program} {w : World} {K : PySem.W.Frag} {mg : Str → Option Value} {base : Heap} {Sum f : Addr} {fd : FuncData} (T : Txt K mg Sum)  (F : FunU K "Sum.weight" st_Sum_weight f fd) :
    FnOk P w K mg base CX0 1 f fd ["self", "name"] (S_Sum_weight K Sum) :=
  fn_d (u := u_Sum_weight Sum) F sc_Sum_weight rfl 0 rfl fun cdv A outer s H E hr => by
    have hu := hu_of hr
    have hu64 := hr.units
    exact (dss_one (ds_ret (dx_ifExp (dt_val (dx_isi (pe_bltn (v := .ty "str") (by rfl) T.m_str boot_str rfl) (s_isT T.fs "str") (do_var 1) (by rfl) T.m_isinstance boot_isinstance)) (dx_of (dx_get2 hu ⟨rfl, rfl, rfl, rfl⟩ (do_p (dp_fld (dp_var 0) T.Sum_cls T.Sum_na_own_weights)) (do_var 1) do_int)) (dx_of do_int))))
end K11

set_option Elab.async false
set_option linter.all false
set_option maxRecDepth 100000
set_option maxHeartbeats 4000000
namespace K11
open PySem PySem.Spec L2 PyProof.Rows QD
theorem ok_Sum_want_alike {P : Program} {w : World} {K : PySem.W.Frag} {mg : Str → Option Value} {base : Heap} {Sum f : Addr} {fd : FuncData} (T : Txt K mg Sum) (c_Sum_modulus : Prp P w K mg base 1 Sum "modulus" ["self"] (S_Sum_modulus K Sum)) (F : FunU K "Sum.want_alike" st_Sum_want_alike f fd) :
    FnOk P w K mg base CX0 3 f fd ["self", "other"] (S_Sum_want_alike K Sum) :=
  fn_d (u := u_Sum_want_alike Sum) F sc_Sum_want_alike rfl 0 rfl fun cdv A outer s H E hr => by
    have hu := hu_of hr
    have hu64 := hr.units
    exact (dss_cons (ds_if (dt_not (dt_val (dx_isi (pe_glob (v := .ref Sum) (by rfl) T.Sum_mg rfl) (s_isC T.Sum_f) (do_var 1) (by rfl) T.m_isinstance boot_isinstance))) (dss_one ds_never) dss_nil)
      (dss_one (ds_if (dt_cmp (o_ne hu64) s_ne (by first | exact nobehind _ (by decide) (by decide) | rfl) (do_of (dx_P c_Sum_modulus T.Sum_cls (hr.mono (by decide)) (do_var 1))) (do_p (dp_fld (dp_var 0) T.Sum_cls T.Sum_na_own_modulus))) (dss_one ds_never) dss_nil)))
end K11

set_option Elab.async false
set_option linter.all false
set_option maxRecDepth 100000
set_option maxHeartbeats 4000000
namespace K11
open PySem PySem.Spec L2 PyProof.Rows QD
theorem ok_Sum__mul {P : Program} {w : World} {K : PySem.W.Frag} {mg : Str → Option Value} {base : Heap} {Sum f : Addr} {fd : FuncData} (T : Txt K mg Sum) (c_Sum__init : Mak P w K mg base 4 Sum "Sum" ["self", "modulus", "weights", "constant"] (S_Sum__init K Sum) []) (c_is_integer : Cal P w K mg base 1 "is_integer" ["value"] (S_is_integer K Sum)) (F : FunU K "Sum.__mul__" st_Sum__mul f fd) :
    FnOk P w K mg base CX0 6 f fd ["self", "number"] (S_Sum__mul K Sum) :=
  fn_d (u := u_Sum__mul Sum) F sc_Sum__mul rfl 3 rfl fun cdv A outer s H E hr => by
    have hu := hu_of hr
    have hu64 := hr.units
    exact (dss_cons (ds_if (dt_not (dt_val (dx_f c_is_integer (hr.mono (by decide)) (da_cons (do_var 1) da_nil)))) (dss_one ds_never) dss_nil)
      (dss_cons (ds_lockP (dp_fld (dp_var 0) T.Sum_cls T.Sum_na_own_weights) (fun h => (ds_dcz 2 (fun pi pg pt p p2 => ps_setDc (i := 2) (own := [("name", 3), ("weight", 4)]) rfl sc_Sum__mul.nd rfl rfl (sw_trueD rfl rfl rfl (by decide +kernel)) pi (blkOk_by (N := ["self", "number", "weights", "name", "weight"]) (sc := defScope st_Sum__mul) (by decide +kernel)) pg pt p p2) (di_itemsP h (fun p => pi_items p)) (fun s H C cl fp => (dtg_tup rfl (dtgs_cons (dtg_name 3 sc_Sum__mul.nd) (dtgs_cons (dtg_name 4 sc_Sum__mul.nd) dtgs_nil)))) (by decide) (fun s H C cl fp => dts_nil) (fun s H C cl fp => (dg_of (dx_of (do_var 3)))) (fun s H C cl fp => (dg_of (dx_bin op_mod s_mod (do_of (dx_bin op_mul s_mul (do_var 4) (do_var 1))) (do_p (dp_fld (dp_var 0) T.Sum_cls T.Sum_na_own_modulus))))))) (fun _ _ _ h => let ⟨a, kds, h, _⟩ := h; ⟨a, kds, h⟩))
      (dss_one (ds_ret (dx_C c_Sum__init (hr.mono (by decide)) (da_cons (do_p (dp_fld (dp_var 0) T.Sum_cls T.Sum_na_own_modulus)) (da_cons (do_var 2) (da_cons (do_of (dx_bin op_mod s_mod (do_of (dx_bin op_mul s_mul (do_p (dp_fld (dp_var 0) T.Sum_cls T.Sum_na_own_constant)) (do_var 1))) (do_p (dp_fld (dp_var 0) T.Sum_cls T.Sum_na_own_modulus)))) da_nil))) args0)))))
end K11

set_option Elab.async false
set_option linter.all false
set_option maxRecDepth 100000
set_option maxHeartbeats 4000000
namespace K11
open PySem PySem.Spec L2 PyProof.Rows QD
theorem ok_Sum__neg {P : Program} {w : World} {K : PySem.W.Frag} {mg : Str → Option Value} {base : Heap} {Sum f : Addr} {fd : FuncData} (T : Txt K mg Sum) (c_Sum__mul : Mth P w K mg base 6 Sum "__mul__" ["self", "number"] (S_Sum__mul K Sum)) (F : FunU K "Sum.__neg__" st_Sum__neg f fd) :
    FnOk P w K mg base CX0 7 f fd ["self"] (S_Sum__neg K Sum) :=
  fn_d (u := u_Sum__neg Sum) F sc_Sum__neg rfl 0 rfl fun cdv A outer s H E hr => by
    have hu := hu_of hr
    have hu64 := hr.units
    exact (dss_one (ds_ret (dx_owI (op_owI_of c_Sum__mul T.Sum_sf T.Sum_int_mul (hr.mono (by decide))) (do_var 0) (do_of (dx_un un_neg s_neg do_int)))))
end K11

set_option Elab.async false
set_option linter.all false
set_option maxRecDepth 100000
set_option maxHeartbeats 4000000
namespace K11
open PySem PySem.Spec L2 PyProof.Rows QD
theorem ok_Sum__add {P : Program} {w : World} {K : PySem.W.Frag} {mg : Str → Option Value} {base : Heap} {Sum f : Addr} {fd : FuncData} (T : Txt K mg Sum) (c_Sum__init : Mak P w K mg base 4 Sum "Sum" ["self", "modulus", "weights", "constant"] (S_Sum__init K Sum) []) (c_Sum_constant : Prp P w K mg base 1 Sum "constant" ["self"] (S_Sum_constant K Sum)) (c_Sum_want_alike : Mth P w K mg base 3 Sum "want_alike" ["self", "other"] (S_Sum_want_alike K Sum)) (c_Sum_weights : Mth P w K mg base 1 Sum "weights" ["self"] (S_Sum_weights K Sum)) (F : FunU K "Sum.__add__" st_Sum__add f fd) :
    FnOk P w K mg base CX0 6 f fd ["self", "other"] (S_Sum__add K Sum) :=
  fn_d (u := u_Sum__add Sum) F sc_Sum__add rfl 3 rfl fun cdv A outer s H E hr => by
    have hu := hu_of hr
    have hu64 := hr.units
    exact (dss_cons (ds_expr (dx_M (pl := _) c_Sum_want_alike T.Sum_cls (hr.mono (by decide)) (do_var 0) (da_cons (do_var 1) da_nil)))
      (dss_cons (ds_set 2 (dx_cbF (fun p => pe_callTy (c_dict rfl) (by rfl) T.m_dict boot_dict p) f_dict (da_cons (do_p (dp_fld (dp_var 0) T.Sum_cls T.Sum_na_own_weights)) da_nil)) sc_Sum__add.nd)
      (dss_cons (ds_z (ds_forz (di_itemsF (dx_M0 (pl := _) c_Sum_weights T.Sum_cls (hr.mono (by decide)) (do_var 1)) (fun p => pi_items p)) (dtg_tup rfl (dtgs_cons (dtg_name 3 sc_Sum__add.nd) (dtgs_cons (dtg_name 4 sc_Sum__add.nd) dtgs_nil))) (dss_one (ds_put 2 (dg_of (dx_bin op_mod s_mod (do_of (dx_bin o_add s_add (dx_get2 hu ⟨rfl, rfl, rfl, rfl⟩ (do_var 2) (do_var 3) do_int) (do_var 4))) (do_p (dp_fld (dp_var 0) T.Sum_cls T.Sum_na_own_modulus)))) (do_var 3) (fun p pk => ps_dput hu (pv 2) pk p rfl))) (fun pi pg pb => ps_for PassesOwn.never rfl pi pg pb)))
      (dss_one (ds_ret (dx_C c_Sum__init (hr.mono (by decide)) (da_cons (do_p (dp_fld (dp_var 0) T.Sum_cls T.Sum_na_own_modulus)) (da_cons (do_var 2) (da_cons (do_of (dx_bin op_mod s_mod (do_of (dx_bin o_add s_add (do_p (dp_fld (dp_var 0) T.Sum_cls T.Sum_na_own_constant)) (do_of (dx_P c_Sum_constant T.Sum_cls (hr.mono (by decide)) (do_var 1))))) (do_p (dp_fld (dp_var 0) T.Sum_cls T.Sum_na_own_modulus)))) da_nil))) args0))))))
end K11

set_option Elab.async false
set_option linter.all false
set_option maxRecDepth 100000
set_option maxHeartbeats 4000000
namespace K11
open PySem PySem.Spec L2 PyProof.Rows QD
theorem ok_Sum__sub {P : Program} {w : World} {K : PySem.W.Frag} {mg : Str → Option Value} {base : Heap} {Sum f : Addr} {fd : FuncData} (T : Txt K mg Sum) (c_Sum__add : Mth P w K mg base 6 Sum "__add__" ["self", "other"] (S_Sum__add K Sum)) (c_Sum__mul : Mth P w K mg base 6 Sum "__mul__" ["self", "number"] (S_Sum__mul K Sum)) (c_Sum_want_alike : Mth P w K mg base 3 Sum "want_alike" ["self", "other"] (S_Sum_want_alike K Sum)) (F : FunU K "Sum.__sub__" st_Sum__sub f fd) :
    FnOk P w K mg base CX0 7 f fd ["self", "other"] (S_Sum__sub K Sum) :=
  fn_d (u := u_Sum__sub Sum) F sc_Sum__sub rfl 0 rfl fun cdv A outer s H E hr => by
    have hu := hu_of hr
    have hu64 := hr.units
    exact (dss_cons (ds_expr (dx_M (pl := _) c_Sum_want_alike T.Sum_cls (hr.mono (by decide)) (do_var 0) (da_cons (do_var 1) da_nil)))
      (dss_one (ds_ret (dx_owB (op_owB_of c_Sum__add T.Sum_sf (hr.mono (by decide))) (do_var 0) (do_of (dx_owI (op_owI_of c_Sum__mul T.Sum_sf T.Sum_int_mul (hr.mono (by decide))) (do_var 1) (do_of (dx_un un_neg s_neg do_int))))))))
end K11

set_option Elab.async false
set_option linter.all false
set_option maxRecDepth 100000
set_option maxHeartbeats 4000000
namespace K11
open PySem PySem.Spec L2 PyProof.Rows QD
theorem ok_Sum_at {P : Program} {w : World} {K : PySem.W.Frag} {mg : Str → Option Value} {base : Heap} {Sum f : Addr} {fd : FuncData} (T : Txt K mg Sum) (c_is_world : Cal P w K mg base 3 "is_world" ["value", "modulus"] (S_is_world K Sum)) (F : FunU K "Sum.at" st_Sum_at f fd) :
    FnOk P w K mg base CX0 4 f fd ["self", "world"] (S_Sum_at K Sum) :=
  fn_d (u := u_Sum_at Sum) F sc_Sum_at rfl 3 rfl fun cdv A outer s H E hr => by
    have hu := hu_of hr
    have hu64 := hr.units
    exact (dss_cons (ds_if (dt_not (dt_val (dx_f c_is_world (hr.mono (by decide)) (da_cons (do_var 1) (da_cons (do_p (dp_fld (dp_var 0) T.Sum_cls T.Sum_na_own_modulus)) da_nil))))) (dss_one ds_never) dss_nil)
      (dss_cons (ds_set 2 (dx_of (do_p (dp_fld (dp_var 0) T.Sum_cls T.Sum_na_own_constant))) sc_Sum_at.nd)
      (dss_cons (ds_lockP (dp_fld (dp_var 0) T.Sum_cls T.Sum_na_own_weights) (fun h => (ds_forz (di_itemsP h (fun p => pi_items p)) (dtg_tup rfl (dtgs_cons (dtg_name 3 sc_Sum_at.nd) (dtgs_cons (dtg_name 4 sc_Sum_at.nd) dtgs_nil))) (dss_cons (ds_if (dt_knin hu (by rfl) (do_var 3) (do_var 1)) (dss_one ds_never) dss_nil)
      (dss_one (ds_aug 2 (do_of (dx_bin op_mul s_mul (do_var 4) (do_of (dx_dget hu (fun _ _ => rfl) (do_var 1) (do_var 3))))) (fun p => ps_aug sc_Sum_at.nd rfl (by first | exact Or.inl rfl | exact Or.inr rfl) p ip_add)))) (fun pi pg pb => ps_for PassesOwn.never rfl pi pg pb))) (fun _ _ _ h => let ⟨a, kds, h, _⟩ := h; ⟨a, kds, h⟩))
      (dss_one (ds_ret (dx_bin op_mod s_mod (do_var 2) (do_p (dp_fld (dp_var 0) T.Sum_cls T.Sum_na_own_modulus))))))))
end K11

set_option Elab.async false
set_option linter.all false
set_option maxRecDepth 100000
set_option maxHeartbeats 4000000
namespace K11
open PySem PySem.Spec L2 PyProof.Rows QD
theorem ok_Sum_put {P : Program} {w : World} {K : PySem.W.Frag} {mg : Str → Option Value} {base : Heap} {Sum f : Addr} {fd : FuncData} (T : Txt K mg Sum) (c_Sum__add : Mth P w K mg base 6 Sum "__add__" ["self", "other"] (S_Sum__add K Sum)) (c_Sum__init : Mak P w K mg base 4 Sum "Sum" ["self", "modulus", "weights", "constant"] (S_Sum__init K Sum) []) (c_Sum__init1 : Mak P w K mg base 4 Sum "Sum" ["self", "modulus", "weights", "constant"] (S_Sum__init K Sum) [.int 0]) (c_Sum__mul : Mth P w K mg base 6 Sum "__mul__" ["self", "number"] (S_Sum__mul K Sum)) (c_is_name : Cal P w K mg base 1 "is_name" ["value"] (S_is_name K Sum)) (c_is_sum : Cal P w K mg base 1 "is_sum" ["value", "modulus"] (S_is_sum K Sum)) (F : FunU K "Sum.put" st_Sum_put f fd) :
    FnOk P w K mg base CX0 7 f fd ["self", "sums"] (S_Sum_put K Sum) :=
  fn_d (u := u_Sum_put Sum) F sc_Sum_put rfl 4 rfl fun cdv A outer s H E hr => by
    have hu := hu_of hr
    have hu64 := hr.units
    exact (dss_cons (ds_set 2 (dx_isi (pe_bltn (v := .ty "dict") (by rfl) T.m_dict boot_dict rfl) (s_isT T.fs "dict") (do_var 1) (by rfl) T.m_isinstance boot_isinstance) sc_Sum_put.nd)
      (dss_cons (ds_if (dt_w (dw_or (dt_not (dt_val (dx_of (do_var 2)))) (dw_or1 (dt_not (dt_val (dx_cbS (fun p => pe_callB (cr_all rfl) (by rfl) T.m_all boot_all p) s_all (da_cons (do_of (dx_lockP (dp_var 1) (fun h => (dx_lcz (fun pi pg pt p => pe_lc (own := [("name", 3)]) rfl sc_Sum_put.nd pi (blkOk_by (N := ["self", "sums", "is_right", "name", "found", "weight"]) (sc := defScope st_Sum_put) (by decide +kernel)) pg pt p) (di_keysP h) (fun s H C cl fp => (dtg_name 3 sc_Sum_put.nd)) (by decide) (fun s H C cl fp => dts_nil) (fun s H C cl fp => (dg_of (dx_and (dx_f c_is_name (hr.mono (by decide)) (da_cons (do_var 3) da_nil)) (dx_one (dx_f c_is_sum (hr.mono (by decide)) (da_cons (do_of (dx_dget hu (fun _ _ => rfl) (do_var 1) (do_var 3))) (da_cons (do_p (dp_fld (dp_var 0) T.Sum_cls T.Sum_na_own_modulus)) da_nil))) pe_one)))))) (fun _ _ _ h => let ⟨a, kds, h, _⟩ := h; ⟨a, kds, h⟩))) da_nil))))))) (dss_one ds_never) dss_nil)
      (dss_cons (ds_set 4 (dx_C c_Sum__init (hr.mono (by decide)) (da_cons (do_p (dp_fld (dp_var 0) T.Sum_cls T.Sum_na_own_modulus)) (da_cons (do_of dx_dic0) (da_cons (do_p (dp_fld (dp_var 0) T.Sum_cls T.Sum_na_own_constant)) da_nil))) args0) sc_Sum_put.nd)
      (dss_cons (ds_lockP (dp_fld (dp_var 0) T.Sum_cls T.Sum_na_own_weights) (fun h => (ds_forz (di_itemsP h (fun p => pi_items p)) (dtg_tup rfl (dtgs_cons (dtg_name 3 sc_Sum_put.nd) (dtgs_cons (dtg_name 5 sc_Sum_put.nd) dtgs_nil))) (dss_one (ds_set 4 (dx_owB (op_owB_of c_Sum__add T.Sum_sf (hr.mono (by decide))) (do_var 4) (do_of (dx_owI (op_owI_of c_Sum__mul T.Sum_sf T.Sum_int_mul (hr.mono (by decide))) (dx_get2 hu ⟨rfl, rfl, rfl, rfl⟩ (do_var 1) (do_var 3) (do_of (dx_C c_Sum__init1 (hr.mono (by decide)) (da_cons (do_p (dp_fld (dp_var 0) T.Sum_cls T.Sum_na_own_modulus)) (da_cons (do_of (dx_dic (dps_cons (do_var 3) (dg_of (dx_of do_int)) dps_nil) (by decide) rfl rfl (by simp) (by intro XQ L QD h; simpa [uPs, uPs0] using h))) da_nil)) (fun _ _ => .cons (m := .b) (.int 0) .nil)))) (do_var 5)))) sc_Sum_put.nd)) (fun pi pg pb => ps_for PassesOwn.never rfl pi pg pb))) (fun _ _ _ h => let ⟨a, kds, h, _⟩ := h; ⟨a, kds, h⟩))
      (dss_one (ds_ret (dx_of (do_var 4))))))))
end K11

set_option Elab.async false
set_option linter.all false
set_option maxRecDepth 100000
set_option maxHeartbeats 4000000
namespace K11
open PySem PySem.Spec L2 PyProof.Rows QD
theorem ok_law_rng {P : Program} {w : World} {K : PySem.W.Frag} {mg : Str → Option Value} {base : Heap} {Sum f : Addr} {fd : FuncData} (T : Txt K mg Sum)  (F : FunU K "_law_rng" st_law_rng f fd) :
    FnOk P w K mg base CX0 1 f fd ["script", "k"] (S_law_rng K Sum) :=
  fn_d (u := u_law_rng Sum) F sc_law_rng rfl 1 rfl fun cdv A outer s H E hr => by
    have hu := hu_of hr
    have hu64 := hr.units
    exact (dss_cons (ds_set 2 (dx_bin o_add s_add (do_of (dx_bin op_mul s_mul do_int (do_var 1))) do_int) sc_law_rng.nd)
      (dss_cons (ds_if (dt_cmp op_lt s_lt (by first | exact nobehind _ (by decide) (by decide) | rfl) (do_var 1) (do_of (dx_cbS (fun p => pe_callB c_len (by rfl) T.m_len boot_len p) s_len (da_cons (do_var 0) da_nil)))) (dss_one (ds_set 2 (dx_ixL (fun _ _ => rfl) (do_var 0) (do_var 1)) sc_law_rng.nd)) dss_nil)
      (dss_one (ds_ret (dx_lst (da_cons (do_of (dx_cbS (fun p => pe_callB (call_max2 rfl) (by rfl) T.m_max boot_max p) s_max (da_cons do_int (da_cons (do_of (dx_bin op_sub s_sub (do_of (dx_cbS (fun p => pe_callB call_abs (by rfl) T.m_abs boot_abs p) s_abs (da_cons (do_var 2) da_nil))) (do_of (dx_bin op_pow s_pow do_int do_int)))) da_nil)))) (da_cons (do_of (dx_bin o_add s_add (do_of (dx_bin op_mod s_mod (do_of (dx_bin op_mul s_mul (do_of (dx_cbS (fun p => pe_callTy call_int1 (by rfl) T.m_int boot_int p) s_int (da_cons (do_of (dx_bin o_add s_add (do_of (dx_bin op_mod s_mod (do_of (dx_cbS (fun p => pe_callTy call_int1 (by rfl) T.m_int boot_int p) s_int (da_cons (do_of (dx_cbS (fun p => pe_callB call_abs (by rfl) T.m_abs boot_abs p) s_abs (da_cons (do_var 2) da_nil))) da_nil))) do_int)) do_int)) da_nil))) (do_of (dx_bin op_pow s_pow (do_of (dx_bin o_add s_add (do_of (dx_bin op_mul s_mul do_int (do_var 1))) do_int)) do_int)))) do_int)) do_int)) da_nil)))))))
end K11

set_option Elab.async false
set_option linter.all false
set_option maxRecDepth 100000
set_option maxHeartbeats 4000000
namespace K11
open PySem PySem.Spec L2 PyProof.Rows QD
theorem ok_law_draw {P : Program} {w : World} {K : PySem.W.Frag} {mg : Str → Option Value} {base : Heap} {Sum f : Addr} {fd : FuncData} (T : Txt K mg Sum)  (F : FunU K "_law_draw" st_law_draw f fd) :
    FnOk P w K mg base CX0 1 f fd ["rng", "many"] (S_law_draw K Sum) :=
  fn_o (u := u_law_draw Sum) F sc_law_draw rfl 1 rfl fun cdv A outer s H E hr => by
    have hu := hu_of hr
    have hu64 := hr.units
    exact (dss_cons (ds_if (dt_cmp op_gt s_gt (by first | exact nobehind _ (by decide) (by decide) | rfl) (do_of (dx_ixL (fun _ _ => rfl) (do_var 0) do_int)) do_int) (dss_cons (ds_asg (dx_cbT (fun p => pe_callB call_divmod (by rfl) T.m_divmod boot_divmod p) t_divmod (da_cons (do_of (dx_ixL (fun _ _ => rfl) (do_var 0) do_int)) (da_cons (do_var 1) da_nil))) (dtg_tup rfl (dtgs_cons (dtg_lput 0 0 (pg_sub (pv 0) pe_int set_list)) (dtgs_cons (dtg_name 2 sc_law_draw.nd) dtgs_nil))) (fun p pg => ps_asg p pg))
      (dss_one (ds_ret (dx_of (do_var 2))))) dss_nil)
      (dss_cons (ds_lput 0 (dg_of (dx_bin op_mod s_mod (do_of (dx_cbS (fun p => pe_callTy call_int1 (by rfl) T.m_int boot_int p) s_int (da_cons (do_of (dx_bin o_add s_add (do_of (dx_bin op_mul s_mul (do_of (dx_ixL (fun _ _ => rfl) (do_var 0) do_int)) do_int)) do_int)) da_nil))) do_int)) do_int (fun p pk => ps_asg p (pg_sub (pv 0) pk set_list)))
      (dss_one (ds_ret (dx_bin op_mod s_mod (do_of (dx_bin op_fdiv s_fdiv (do_of (dx_bin op_mod s_mod (do_of (dx_cbS (fun p => pe_callTy call_int1 (by rfl) T.m_int boot_int p) s_int (da_cons (do_of (dx_bin op_mul s_mul (do_of (dx_ixL (fun _ _ => rfl) (do_var 0) do_int)) (do_of (dx_ixL (fun _ _ => rfl) (do_var 0) do_int)))) da_nil))) do_int)) do_int)) (do_var 1))))))
end K11

set_option Elab.async false
set_option linter.all false
set_option maxRecDepth 100000
set_option maxHeartbeats 4000000
namespace K11
open PySem PySem.Spec L2 PyProof.Rows QD
theorem ok_law_some_names {P : Program} {w : World} {K : PySem.W.Frag} {mg : Str → Option Value} {base : Heap} {Sum f : Addr} {fd : FuncData} (T : Txt K mg Sum) (c_law_draw : Cal P w K mg base 1 "_law_draw" ["rng", "many"] (S_law_draw K Sum)) (F : FunU K "_law_some_names" st_law_some_names f fd) :
    FnOk P w K mg base CX0 2 f fd ["rng", "many"] (S_law_some_names K Sum) :=
  fn_o (u := u_law_some_names Sum) F sc_law_some_names rfl 5 rfl fun cdv A outer s H E hr => by
    have hu := hu_of hr
    have hu64 := hr.units
    exact (dss_cons (ds_set 2 (dx_lst da_nil) sc_law_some_names.nd)
      (dss_cons (ds_z (ds_forz (di_range1 (fun p => pi_range1 (by rfl) T.m_range p) (da_cons (do_var 1) da_nil)) (dtg_name 3 sc_law_some_names.nd) (dss_cons (ds_set 4 (dx_ixL (fun _ _ => rfl) (do_of (dx_lst (da_cons do_int (da_cons do_int (da_cons do_int (da_cons do_int da_nil)))))) (do_of (dx_fO 0 c_law_draw (hr.mono (by decide)) (da_cons (do_var 0) (da_cons do_int da_nil))))) sc_law_some_names.nd)
      (dss_cons (ds_set 5 (dx_ixS (fun _ _ => rfl) do_str (do_of (dx_fO 0 c_law_draw (hr.mono (by decide)) (da_cons (do_var 0) (da_cons do_int da_nil))))) sc_law_some_names.nd)
      (dss_cons (ds_set 5 (dx_bin o_add s_add (do_var 5) (do_of (dx_join do_str (do_of (dx_z (dx_lcz (fun pi pg pt p => pe_lc (own := [("turn", 6)]) rfl sc_law_some_names.nd pi (blkOk_by (N := ["rng", "many", "found", "k", "size", "name", "turn"]) (sc := defScope st_law_some_names) (by decide +kernel)) pg pt p) (di_range1 (fun p => pi_range1 (by rfl) T.m_range p) (da_cons (do_var 4) da_nil)) (fun s H C cl fp => (dtg_name 6 sc_law_some_names.nd)) (by decide) (fun s H C cl fp => dts_nil) (fun s H C cl fp => (dg_of (dx_ixS (fun _ _ => rfl) do_str (do_of (dx_fO 0 c_law_draw (hr.mono (by decide)) (da_cons (do_var 0) (da_cons do_int da_nil))))))))))))) sc_law_some_names.nd)
      (dss_one (ds_if (dt_cmp o_nin s_nin (by first | exact nobehind _ (by decide) (by decide) | rfl) (do_var 5) (do_var 2)) (dss_one (ds_app 2 (dg_of (dx_of (do_var 5))) (fun p => ps_expr (pe_bm PySem.F.plainAttrs_list PySem.F.slot_list_append PySem.F.type_list_append mt_append (pv 2) (pa_cons p pa_nil))))) dss_nil))))) (fun pi pg pb => ps_for PassesOwn.never rfl pi pg pb)))
      (dss_one (ds_ret (dx_of (do_var 2))))))
end K11

set_option Elab.async false
set_option linter.all false
set_option maxRecDepth 100000
set_option maxHeartbeats 4000000
namespace K11
open PySem PySem.Spec L2 PyProof.Rows QD
theorem ok_law_added {P : Program} {w : World} {K : PySem.W.Frag} {mg : Str → Option Value} {base : Heap} {Sum f : Addr} {fd : FuncData} (T : Txt K mg Sum)  (F : FunU K "_law_added" st_law_added f fd) :
    FnOk P w K mg base CX0 1 f fd ["one", "other", "by", "q"] (S_law_added K Sum) :=
  fn_d (u := u_law_added Sum) F sc_law_added rfl 3 rfl fun cdv A outer s H E hr => by
    have hu := hu_of hr
    have hu64 := hr.units
    exact (dss_cons (ds_set 4 dx_dic0 sc_law_added.nd)
      (dss_cons (ds_z (ds_forz (di_list (db_of (dx_binF op_catL f_cat (do_of (dx_cbF (fun p => pe_callTy (c_list rfl) (by rfl) T.m_list boot_list p) f_list (da_cons (do_p (dp_ixT (i := 0) (dp_var 0) pe_int (fun _ _ => rfl))) da_nil))) (do_of (dx_cbF (fun p => pe_callTy (c_list rfl) (by rfl) T.m_list boot_list p) f_list (da_cons (do_p (dp_ixT (i := 0) (dp_var 1) pe_int (fun _ _ => rfl))) da_nil)))))) (dtg_name 5 sc_law_added.nd) (dss_cons (ds_set 6 (dx_bin op_mod s_mod (do_of (dx_cbS (fun p => pe_callTy call_int1 (by rfl) T.m_int boot_int p) s_int (da_cons (do_of (dx_bin o_add s_add (dx_get2 hu ⟨rfl, rfl, rfl, rfl⟩ (do_p (dp_ixT (i := 0) (dp_var 0) pe_int (fun _ _ => rfl))) (do_var 5) do_int) (do_of (dx_bin op_mul s_mul (do_var 2) (dx_get2 hu ⟨rfl, rfl, rfl, rfl⟩ (do_p (dp_ixT (i := 0) (dp_var 1) pe_int (fun _ _ => rfl))) (do_var 5) do_int))))) da_nil))) (do_var 3)) sc_law_added.nd)
      (dss_one (ds_if (dt_cmp (o_ne hu64) s_ne (by first | exact nobehind _ (by decide) (by decide) | rfl) (do_var 6) do_int) (dss_one (ds_put 4 (dg_of (dx_of (do_var 6))) (do_var 5) (fun p pk => ps_dput hu (pv 4) pk p rfl))) dss_nil))) (fun pi pg pb => ps_for PassesOwn.never rfl pi pg pb)))
      (dss_one (ds_ret (dx_tup (da_cons (do_gO (dx_of (do_var 4))) (da_cons (do_of (dx_bin op_mod s_mod (do_of (dx_cbS (fun p => pe_callTy call_int1 (by rfl) T.m_int boot_int p) s_int (da_cons (do_of (dx_bin o_add s_add (do_p (dp_ixT (i := 1) (dp_var 0) pe_int (fun _ _ => rfl))) (do_of (dx_bin op_mul s_mul (do_var 2) (do_p (dp_ixT (i := 1) (dp_var 1) pe_int (fun _ _ => rfl))))))) da_nil))) (do_var 3))) da_nil)))))))
end K11

set_option Elab.async false
set_option linter.all false
set_option maxRecDepth 100000
set_option maxHeartbeats 4000000
namespace K11
open PySem PySem.Spec L2 PyProof.Rows QD
theorem ok_law_replaced {P : Program} {w : World} {K : PySem.W.Frag} {mg : Str → Option Value} {base : Heap} {Sum f : Addr} {fd : FuncData} (T : Txt K mg Sum) (c_law_added : Cal P w K mg base 1 "_law_added" ["one", "other", "by", "q"] (S_law_added K Sum)) (F : FunU K "_law_replaced" st_law_replaced f fd) :
    FnOk P w K mg base CX0 2 f fd ["model", "sums", "q"] (S_law_replaced K Sum) :=
  fn_d (u := u_law_replaced Sum) F sc_law_replaced rfl 3 rfl fun cdv A outer s H E hr => by
    have hu := hu_of hr
    have hu64 := hr.units
    exact (dss_cons (ds_set 3 (dx_tup (da_cons (do_gO dx_dic0) (da_cons (do_p (dp_ixT (i := 1) (dp_var 0) pe_int (fun _ _ => rfl))) da_nil))) sc_law_replaced.nd)
      (dss_cons (ds_lockP (dp_ixT (i := 0) (dp_var 0) pe_int (fun _ _ => rfl)) (fun h => (ds_forz (di_itemsP h (fun p => pi_items p)) (dtg_tup rfl (dtgs_cons (dtg_name 4 sc_law_replaced.nd) (dtgs_cons (dtg_name 5 sc_law_replaced.nd) dtgs_nil))) (dss_one (ds_set 3 (dx_f c_law_added (hr.mono (by decide)) (da_cons (do_var 3) (da_cons (dx_get2 hu ⟨rfl, rfl, rfl, rfl⟩ (do_var 1) (do_var 4) (do_of (dx_tup (da_cons (do_gO (dx_dic (dps_cons (do_var 4) (dg_of (dx_of do_int)) dps_nil) (by decide) rfl rfl (by simp) (by intro XQ L QD h; simpa [uPs, uPs0] using h))) (da_cons do_int da_nil))))) (da_cons (do_var 5) (da_cons (do_var 2) da_nil))))) sc_law_replaced.nd)) (fun pi pg pb => ps_for PassesOwn.never rfl pi pg pb))) (fun _ _ _ h => let ⟨a, kds, h, _⟩ := h; ⟨a, kds, h⟩))
      (dss_one (ds_ret (dx_of (do_var 3))))))
end K11

set_option Elab.async false
set_option linter.all false
set_option maxRecDepth 100000
set_option maxHeartbeats 4000000
namespace K11
open PySem PySem.Spec L2 PyProof.Rows QD
theorem ok_law_value {P : Program} {w : World} {K : PySem.W.Frag} {mg : Str → Option Value} {base : Heap} {Sum f : Addr} {fd : FuncData} (T : Txt K mg Sum)  (F : FunU K "_law_value" st_law_value f fd) :
    FnOk P w K mg base CX0 1 f fd ["model", "world", "q"] (S_law_value K Sum) :=
  fn_d (u := u_law_value Sum) F sc_law_value rfl 2 rfl fun cdv A outer s H E hr => by
    have hu := hu_of hr
    have hu64 := hr.units
    exact (dss_one (ds_ret (dx_bin op_mod s_mod (do_of (dx_cbS (fun p => pe_callTy call_int1 (by rfl) T.m_int boot_int p) s_int (da_cons (do_of (dx_bin o_add s_add (do_of (dx_cbS (fun p => pe_callB (cr_sum rfl) (by rfl) T.m_sum boot_sum p) s_sum (da_cons (do_of (dx_lockP (dp_ixT (i := 0) (dp_var 0) pe_int (fun _ _ => rfl)) (fun h => (dx_lcz (fun pi pg pt p => pe_lc (own := [("name", 3), ("weight", 4)]) rfl sc_law_value.nd pi (blkOk_by (N := ["model", "world", "q", "name", "weight"]) (sc := defScope st_law_value) (by decide +kernel)) pg pt p) (di_itemsP h (fun p => pi_items p)) (fun s H C cl fp => (dtg_tup rfl (dtgs_cons (dtg_name 3 sc_law_value.nd) (dtgs_cons (dtg_name 4 sc_law_value.nd) dtgs_nil)))) (by decide) (fun s H C cl fp => dts_nil) (fun s H C cl fp => (dg_of (dx_bin op_mul s_mul (do_var 4) (do_of (dx_dget hu (fun _ _ => rfl) (do_var 1) (do_var 3)))))))) (fun _ _ _ h => let ⟨a, kds, h, _⟩ := h; ⟨a, kds, h⟩))) da_nil))) (do_p (dp_ixT (i := 1) (dp_var 0) pe_int (fun _ _ => rfl))))) da_nil))) (do_var 2))))
end K11

set_option Elab.async false
set_option linter.all false
set_option maxRecDepth 100000
set_option maxHeartbeats 4000000
namespace K11
open PySem PySem.Spec L2 PyProof.Rows QD
theorem ok_law_tells {P : Program} {w : World} {K : PySem.W.Frag} {mg : Str → Option Value} {base : Heap} {Sum f : Addr} {fd : FuncData} (T : Txt K mg Sum) (c_Sum_constant : Prp P w K mg base 1 Sum "constant" ["self"] (S_Sum_constant K Sum)) (c_Sum_is_constant : Prp P w K mg base 1 Sum "is_constant" ["self"] (S_Sum_is_constant K Sum)) (c_Sum_modulus : Prp P w K mg base 1 Sum "modulus" ["self"] (S_Sum_modulus K Sum)) (c_Sum_names : Mth P w K mg base 1 Sum "names" ["self"] (S_Sum_names K Sum)) (c_Sum_weight : Mth P w K mg base 1 Sum "weight" ["self", "name"] (S_Sum_weight K Sum)) (c_Sum_weights : Mth P w K mg base 1 Sum "weights" ["self"] (S_Sum_weights K Sum)) (F : FunU K "_law_tells" st_law_tells f fd) :
    FnOk P w K mg base CX0 3 f fd ["one", "model", "q"] (S_law_tells K Sum) :=
  fn_d (u := u_law_tells Sum) F sc_law_tells rfl 7 rfl fun cdv A outer s H E hr => by
    have hu := hu_of hr
    have hu64 := hr.units
    exact (dss_cons (ds_if (dt_cmp (o_ne hu64) s_ne (by first | exact nobehind _ (by decide) (by decide) | rfl) (do_of (dx_lst (da_cons (do_of (dx_P c_Sum_modulus T.Sum_cls (hr.mono (by decide)) (do_var 0))) (da_cons (do_of (dx_P c_Sum_constant T.Sum_cls (hr.mono (by decide)) (do_var 0))) (da_cons (do_of (dx_P c_Sum_is_constant T.Sum_cls (hr.mono (by decide)) (do_var 0))) da_nil))))) (do_of (dx_lst (da_cons (do_var 2) (da_cons (do_p (dp_ixT (i := 1) (dp_var 1) pe_int (fun _ _ => rfl))) (da_cons (do_of (dx_cmp (o_eq hu64) s_eq (by first | exact nobehind _ (by decide) (by decide) | rfl) (do_p (dp_ixT (i := 0) (dp_var 1) pe_int (fun _ _ => rfl))) (do_of dx_dic0))) da_nil)))))) (dss_one (ds_ret (dx_of do_bl))) dss_nil)
      (dss_cons (ds_z (ds_forz (di_range1 (fun p => pi_range1 (by rfl) T.m_range p) (da_cons do_int da_nil)) (dtg_name 3 sc_law_tells.nd) (dss_cons (ds_set 4 (dx_M0 (pl := _) c_Sum_weights T.Sum_cls (hr.mono (by decide)) (do_var 0)) sc_law_tells.nd)
      (dss_cons (ds_if (dt_w (dw_or (dt_not (dt_val (dx_isi (pe_bltn (v := .ty "dict") (by rfl) T.m_dict boot_dict rfl) (s_isT T.fs "dict") (do_var 4) (by rfl) T.m_isinstance boot_isinstance))) (dw_or1 (dt_cmp (o_ne hu64) s_ne (by first | exact nobehind _ (by decide) (by decide) | rfl) (do_of (dx_listItems (do_var 4) (by rfl) T.m_list boot_list)) (do_of (dx_sortItems hu64 (do_p (dp_ixT (i := 0) (dp_var 1) pe_int (fun _ _ => rfl))) (by rfl) T.m_sorted boot_sorted)))))) (dss_one (ds_ret (dx_of do_bl))) dss_nil)
      (dss_cons (ds_set 5 (dx_M0 (pl := _) c_Sum_names T.Sum_cls (hr.mono (by decide)) (do_var 0)) sc_law_tells.nd)
      (dss_cons (ds_if (dt_w (dw_or (dt_not (dt_val (dx_isi (pe_bltn (v := .ty "list") (by rfl) T.m_list boot_list rfl) (s_isT T.fs "list") (do_var 5) (by rfl) T.m_isinstance boot_isinstance))) (dw_or1 (dt_cmp (o_ne hu64) s_ne (by first | exact nobehind _ (by decide) (by decide) | rfl) (do_var 5) (do_of (dx_cbR (fun p => pe_callB (c_sorted rfl) (by rfl) T.m_sorted boot_sorted p) f_sorted (da_cons (do_p (dp_ixT (i := 0) (dp_var 1) pe_int (fun _ _ => rfl))) da_nil))))))) (dss_one (ds_ret (dx_of do_bl))) dss_nil)
      (dss_cons (ds_clr 4 (ps_expr (pe_dclear (pv 4))))
      (dss_one (ds_app 5 (dg_of (dx_of do_str)) (fun p => ps_expr (pe_bm PySem.F.plainAttrs_list PySem.F.slot_list_append PySem.F.type_list_append mt_append (pv 5) (pa_cons p pa_nil)))))))))) (fun pi pg pb => ps_for PassesOwn.never rfl pi pg pb)))
      (dss_cons (ds_if (dt_cmp (o_ne hu64) s_ne (by first | exact nobehind _ (by decide) (by decide) | rfl) (do_of (dx_z (dx_lcz (fun pi pg pt p => pe_lc (own := [("name", 6)]) rfl sc_law_tells.nd pi (blkOk_by (N := ["one", "model", "q", "turn", "told", "names", "name", "weight", "odd", "value"]) (sc := defScope st_law_tells) (by decide +kernel)) pg pt p) (di_list (db_of (dx_cbR (fun p => pe_callB (c_sorted rfl) (by rfl) T.m_sorted boot_sorted p) f_sorted (da_cons (do_p (dp_ixT (i := 0) (dp_var 1) pe_int (fun _ _ => rfl))) da_nil)))) (fun s H C cl fp => (dtg_name 6 sc_law_tells.nd)) (by decide) (fun s H C cl fp => dts_nil) (fun s H C cl fp => (dg_of (dx_M (pl := _) c_Sum_weight T.Sum_cls (hr.mono (by decide)) (do_var 0) (da_cons (do_var 6) da_nil))))))) (do_of (dx_z (dx_lcz (fun pi pg pt p => pe_lc (own := [("name", 6), ("weight", 7)]) rfl sc_law_tells.nd pi (blkOk_by (N := ["one", "model", "q", "turn", "told", "names", "name", "weight", "odd", "value"]) (sc := defScope st_law_tells) (by decide +kernel)) pg pt p) (di_list (db_of (dx_sortItems hu64 (do_p (dp_ixT (i := 0) (dp_var 1) pe_int (fun _ _ => rfl))) (by rfl) T.m_sorted boot_sorted))) (fun s H C cl fp => (dtg_tup rfl (dtgs_cons (dtg_name 6 sc_law_tells.nd) (dtgs_cons (dtg_name 7 sc_law_tells.nd) dtgs_nil)))) (by decide) (fun s H C cl fp => dts_nil) (fun s H C cl fp => (dg_of (dx_of (do_var 7)))))))) (dss_one (ds_ret (dx_of do_bl))) dss_nil)
      (dss_cons (ds_set 8 (dx_lst (da_cons do_str (da_cons do_str (da_cons do_str (da_cons do_non (da_cons do_int (da_cons do_bl (da_cons (do_gO (dx_lst (da_cons do_str da_nil))) (da_cons (do_gO (dx_tup (da_cons do_str da_nil))) (da_cons (do_gO (dx_dic (dps_cons do_str (dg_of (dx_of do_int)) dps_nil) (by decide) rfl rfl (by simp) (by intro XQ L QD h; simpa [uPs, uPs0] using h))) da_nil)))))))))) sc_law_tells.nd)
      (dss_one (ds_ret (dx_and (dx_cmp (o_eq hu64) s_eq (by first | exact nobehind _ (by decide) (by decide) | rfl) (do_of (dx_z (dx_lcz (fun pi pg pt p => pe_lc (own := [("value", 9)]) rfl sc_law_tells.nd pi (blkOk_by (N := ["one", "model", "q", "turn", "told", "names", "name", "weight", "odd", "value"]) (sc := defScope st_law_tells) (by decide +kernel)) pg pt p) (di_list (db_of (dx_of (do_var 8)))) (fun s H C cl fp => (dtg_name 9 sc_law_tells.nd)) (by decide) (fun s H C cl fp => dts_nil) (fun s H C cl fp => (dg_of (dx_M (pl := _) c_Sum_weight T.Sum_cls (hr.mono (by decide)) (do_var 0) (da_cons (do_var 9) da_nil))))))) (do_of (dx_binF op_repL f_rep (do_of (dx_lst (da_cons do_int da_nil))) (do_of (dx_cbS (fun p => pe_callB c_len (by rfl) T.m_len boot_len p) s_len (da_cons (do_var 8) da_nil)))))) (dx_one (dx_cmp (o_eq hu64) s_eq (by first | exact nobehind _ (by decide) (by decide) | rfl) (do_of (dx_M (pl := _) c_Sum_weight T.Sum_cls (hr.mono (by decide)) (do_var 0) (da_cons do_str da_nil))) (dx_get2 hu ⟨rfl, rfl, rfl, rfl⟩ (do_p (dp_ixT (i := 0) (dp_var 1) pe_int (fun _ _ => rfl))) do_str do_int)) pe_one))))))))
end K11

set_option Elab.async false
set_option linter.all false
set_option maxRecDepth 100000
set_option maxHeartbeats 4000000
namespace K11
open PySem PySem.Spec L2 PyProof.Rows QD
theorem ok_law_drawn {P : Program} {w : World} {K : PySem.W.Frag} {mg : Str → Option Value} {base : Heap} {Sum f : Addr} {fd : FuncData} (T : Txt K mg Sum) (c_law_draw : Cal P w K mg base 1 "_law_draw" ["rng", "many"] (S_law_draw K Sum)) (F : FunU K "_law_drawn" st_law_drawn f fd) :
    FnOk P w K mg base CX0 2 f fd ["rng", "names", "q"] (S_law_drawn K Sum) :=
  fn_o (u := u_law_drawn Sum) F sc_law_drawn rfl 4 rfl fun cdv A outer s H E hr => by
    have hu := hu_of hr
    have hu64 := hr.units
    exact (dss_cons (ds_set 3 dx_dic0 sc_law_drawn.nd)
      (dss_cons (ds_z (ds_forz (di_list (db_of (dx_of (do_var 1)))) (dtg_name 4 sc_law_drawn.nd) (dss_one (ds_if (dt_cmp op_gt s_gt (by first | exact nobehind _ (by decide) (by decide) | rfl) (do_of (dx_fO 0 c_law_draw (hr.mono (by decide)) (da_cons (do_var 0) (da_cons do_int da_nil)))) do_int) (dss_one (ds_put 3 (dg_of (dx_fO 0 c_law_draw (hr.mono (by decide)) (da_cons (do_var 0) (da_cons (do_var 2) da_nil)))) (do_var 4) (fun p pk => ps_dput hu (pv 3) pk p rfl))) dss_nil)) (fun pi pg pb => ps_for PassesOwn.never rfl pi pg pb)))
      (dss_cons (ds_set 5 (dx_cbF (fun p => pe_callTy (c_dict rfl) (by rfl) T.m_dict boot_dict p) f_dict (da_cons (do_of (dx_lend 3 (dx_lockP (dp_var 3) (fun h => (dx_lcz (fun pi pg pt p => pe_lc (own := [("name", 4), ("weight", 6)]) rfl sc_law_drawn.nd pi (blkOk_by (N := ["rng", "names", "q", "handed", "name", "kept", "weight"]) (sc := defScope st_law_drawn) (by decide +kernel)) pg pt p) (di_itemsP h (fun p => pi_items p)) (fun s H C cl fp => (dtg_tup rfl (dtgs_cons (dtg_name 4 sc_law_drawn.nd) (dtgs_cons (dtg_name 6 sc_law_drawn.nd) dtgs_nil)))) (by decide) (fun s H C cl fp => (dts_one (dt_cmp (o_ne hu64) s_ne (by first | exact nobehind _ (by decide) (by decide) | rfl) (do_var 6) do_int))) (fun s H C cl fp => (dg_of (dx_tup (da_cons (do_var 4) (da_cons (do_var 6) da_nil))))))) (fun _ _ _ h => let ⟨a, kds, h, _⟩ := h; ⟨a, kds, h⟩)))) da_nil)) sc_law_drawn.nd)
      (dss_one (ds_ret (dx_tup (da_cons (do_gO (dx_tup (da_cons (do_gO (dx_of (do_var 5))) (da_cons (do_of (dx_fO 0 c_law_draw (hr.mono (by decide)) (da_cons (do_var 0) (da_cons (do_var 2) da_nil)))) da_nil)))) (da_cons (do_gO (dx_of (do_var 3))) da_nil))))))))
end K11

set_option Elab.async false
set_option linter.all false
set_option maxRecDepth 100000
set_option maxHeartbeats 4000000
namespace K11
open PySem PySem.Spec L2 PyProof.Rows QD
theorem ok_law_drawnM {P : Program} {w : World} {K : PySem.W.Frag} {mg : Str → Option Value} {base : Heap} {Sum f : Addr} {fd : FuncData} (T : Txt K mg Sum) (c_law_draw : Cal P w K mg base 1 "_law_draw" ["rng", "many"] (S_law_draw K Sum)) (F : FunU K "_law_drawn" st_law_drawn f fd) :
    FnOk P w K mg base CX0 2 f fd ["rng", "names", "q"] (S_law_drawnM K Sum) :=
  fn_m (u := u_law_drawnM Sum) (ue := v_law_drawnM Sum) (i := 3) F sc_law_drawn rfl 4 rfl rfl fun cdv A outer s H E hr => by
    have hu := hu_of hr
    have hu64 := hr.units
    exact ⟨(dsl_cons (ds_set 3 dx_dic0 sc_law_drawn.nd)
      (dsl_cons (ds_z (ds_forz (di_list (db_of (dx_of (do_var 1)))) (dtg_name 4 sc_law_drawn.nd) (dss_one (ds_if (dt_cmp op_gt s_gt (by first | exact nobehind _ (by decide) (by decide) | rfl) (do_of (dx_fO 0 c_law_draw (hr.mono (by decide)) (da_cons (do_var 0) (da_cons do_int da_nil)))) do_int) (dss_one (ds_put 3 (dg_of (dx_fO 0 c_law_draw (hr.mono (by decide)) (da_cons (do_var 0) (da_cons (do_var 2) da_nil)))) (do_var 4) (fun p pk => ps_dput hu (pv 3) pk p rfl))) dss_nil)) (fun pi pg pb => ps_for PassesOwn.never rfl pi pg pb)))
      (dsl_one (ds_set 5 (dx_cbF (fun p => pe_callTy (c_dict rfl) (by rfl) T.m_dict boot_dict p) f_dict (da_cons (do_of (dx_lend 3 (dx_lockP (dp_var 3) (fun h => (dx_lcz (fun pi pg pt p => pe_lc (own := [("name", 4), ("weight", 6)]) rfl sc_law_drawn.nd pi (blkOk_by (N := ["rng", "names", "q", "handed", "name", "kept", "weight"]) (sc := defScope st_law_drawn) (by decide +kernel)) pg pt p) (di_itemsP h (fun p => pi_items p)) (fun s H C cl fp => (dtg_tup rfl (dtgs_cons (dtg_name 4 sc_law_drawn.nd) (dtgs_cons (dtg_name 6 sc_law_drawn.nd) dtgs_nil)))) (by decide) (fun s H C cl fp => (dts_one (dt_cmp (o_ne hu64) s_ne (by first | exact nobehind _ (by decide) (by decide) | rfl) (do_var 6) do_int))) (fun s H C cl fp => (dg_of (dx_tup (da_cons (do_var 4) (da_cons (do_var 6) da_nil))))))) (fun _ _ _ h => let ⟨a, kds, h, _⟩ := h; ⟨a, kds, h⟩)))) da_nil)) sc_law_drawn.nd)))), (dg_of (dx_tup (da_cons (do_gO (dx_of (do_var 5))) (da_cons (do_of (dx_fO 0 c_law_draw (hr.mono (by decide)) (da_cons (do_var 0) (da_cons (do_var 2) da_nil)))) da_nil)))), pv 3, rfl⟩
end K11

set_option Elab.async false
set_option linter.all false
set_option maxRecDepth 100000
set_option maxHeartbeats 4000000
namespace K11
open PySem PySem.Spec L2 PyProof.Rows QD
theorem ok_law_values_right {P : Program} {w : World} {K : PySem.W.Frag} {mg : Str → Option Value} {base : Heap} {Sum f : Addr} {fd : FuncData} (T : Txt K mg Sum) (c_Sum__init : Mak P w K mg base 4 Sum "Sum" ["self", "modulus", "weights", "constant"] (S_Sum__init K Sum) []) (c_Sum_at : Mth P w K mg base 4 Sum "at" ["self", "world"] (S_Sum_at K Sum)) (c_Sum_put : Mth P w K mg base 7 Sum "put" ["self", "sums"] (S_Sum_put K Sum)) (c_law_draw : Cal P w K mg base 1 "_law_draw" ["rng", "many"] (S_law_draw K Sum)) (c_law_drawn : Cal P w K mg base 2 "_law_drawn" ["rng", "names", "q"] (S_law_drawn K Sum)) (c_law_replaced : Cal P w K mg base 2 "_law_replaced" ["model", "sums", "q"] (S_law_replaced K Sum)) (c_law_tells : Cal P w K mg base 3 "_law_tells" ["one", "model", "q"] (S_law_tells K Sum)) (c_law_value : Cal P w K mg base 1 "_law_value" ["model", "world", "q"] (S_law_value K Sum)) (F : FunU K "_law_values_right" st_law_values_right f fd) :
    FnOk P w K mg base CX0 8 f fd ["rng", "names", "pairs", "q"] (S_law_values_right K Sum) :=
  fn_o (u := u_law_values_right Sum) F sc_law_values_right rfl 7 rfl fun cdv A outer s H E hr => by
    have hu := hu_of hr
    have hu64 := hr.units
    exact (dss_cons (ds_set 4 (dx_cbF (fun p => pe_callTy (c_dict rfl) (by rfl) T.m_dict boot_dict p) f_dict (da_cons (do_of (dx_z (dx_lcz (fun pi pg pt p => pe_lc (own := [("name", 5)]) rfl sc_law_values_right.nd pi (blkOk_by (N := ["rng", "names", "pairs", "q", "world", "name", "kept", "sums", "models", "one", "model"]) (sc := defScope st_law_values_right) (by decide +kernel)) pg pt p) (di_list (db_of (dx_binF op_catL f_cat (do_var 1) (do_of (dx_lst (da_cons do_str (da_cons do_str da_nil))))))) (fun s H C cl fp => (dtg_name 5 sc_law_values_right.nd)) (by decide) (fun s H C cl fp => dts_nil) (fun s H C cl fp => (dg_of (dx_tup (da_cons (do_var 5) (da_cons (do_of (dx_fO 0 c_law_draw (hr.mono (by decide)) (da_cons (do_var 0) (da_cons (do_var 3) da_nil)))) da_nil)))))))) da_nil)) sc_law_values_right.nd)
      (dss_cons (ds_set 6 (dx_cbF (fun p => pe_callTy (c_dict rfl) (by rfl) T.m_dict boot_dict p) f_dict (da_cons (do_var 4) da_nil)) sc_law_values_right.nd)
      (dss_cons (ds_par 7 8 dx_dic0 dx_dic0 (fun p1 p2 => ps_par rfl sc_law_values_right.nd rfl rfl (by decide) rfl rfl (pa_cons p1 (pa_cons p2 pa_nil)) (by rfl)))
      (dss_cons (ds_z (ds_forz (di_list (db_of (dx_binF op_catL f_cat (do_var 1) (do_of (dx_lst (da_cons do_str da_nil)))))) (dtg_name 5 sc_law_values_right.nd) (dss_one (ds_if (dt_cmp op_gt s_gt (by first | exact nobehind _ (by decide) (by decide) | rfl) (do_of (dx_fO 0 c_law_draw (hr.mono (by decide)) (da_cons (do_var 0) (da_cons do_int da_nil)))) do_int) (dss_cons (ds_put 8 (dg_of (dx_ixT (fun _ _ => rfl) (do_of (dx_fO 0 c_law_drawn (hr.mono (by decide)) (da_cons (do_var 0) (da_cons (do_var 1) (da_cons (do_var 3) da_nil))))) do_int)) (do_var 5) (fun p pk => ps_dput hu (pv 8) pk p rfl))
      (dss_one (ds_put 7 (dg_of (dx_C c_Sum__init (hr.mono (by decide)) (da_cons (do_var 3) (da_cons (do_of (dx_ixT (fun _ _ => rfl) (do_of (dx_dget hu (fun _ _ => rfl) (do_var 8) (do_var 5))) do_int)) (da_cons (do_of (dx_ixT (fun _ _ => rfl) (do_of (dx_dget hu (fun _ _ => rfl) (do_var 8) (do_var 5))) do_int)) da_nil))) args0)) (do_var 5) (fun p pk => ps_dput hu (pv 7) pk p rfl)))) dss_nil)) (fun pi pg pb => ps_for PassesOwn.never rfl pi pg pb)))
      (dss_cons (ds_z (ds_forz (di_list (db_of (dx_of (do_var 2)))) (dtg_tup rfl (dtgs_cons (dtg_name 9 sc_law_values_right.nd) (dtgs_cons (dtg_name 10 sc_law_values_right.nd) dtgs_nil))) (dss_cons (ds_if (dt_w (dw_or (dt_cmp (o_ne hu64) s_ne (by first | exact nobehind _ (by decide) (by decide) | rfl) (do_of (dx_M (pl := _) c_Sum_at T.Sum_cls (hr.mono (by decide)) (do_var 9) (da_cons (do_var 4) da_nil))) (do_of (dx_f c_law_value (hr.mono (by decide)) (da_cons (do_var 10) (da_cons (do_var 4) (da_cons (do_var 3) da_nil)))))) (dw_or1 (dt_cmp (o_ne hu64) s_ne (by first | exact nobehind _ (by decide) (by decide) | rfl) (do_of (dx_M (pl := _) c_Sum_at T.Sum_cls (hr.mono (by decide)) (do_var 9) (da_cons (do_of (dx_cbF (fun p => pe_callTy (c_dict rfl) (by rfl) T.m_dict boot_dict p) f_dict (da_cons (do_of (dx_rev (do_of (dx_listItems (do_var 4) (by rfl) T.m_list boot_list)) (fun p => pe_revL p))) da_nil))) da_nil))) (do_of (dx_M (pl := _) c_Sum_at T.Sum_cls (hr.mono (by decide)) (do_var 9) (da_cons (do_var 4) da_nil))))))) (dss_one (ds_ret (dx_of do_bl))) dss_nil)
      (dss_cons (ds_if (dt_w (dw_or (dt_not (dt_val (dx_f c_law_tells (hr.mono (by decide)) (da_cons (do_of (dx_M (pl := _) c_Sum_put T.Sum_cls (hr.mono (by decide)) (do_var 9) (da_cons (do_var 7) da_nil))) (da_cons (do_of (dx_f c_law_replaced (hr.mono (by decide)) (da_cons (do_var 10) (da_cons (do_var 8) (da_cons (do_var 3) da_nil))))) (da_cons (do_var 3) da_nil)))))) (dw_or1 (dt_not (dt_val (dx_f c_law_tells (hr.mono (by decide)) (da_cons (do_var 9) (da_cons (do_var 10) (da_cons (do_var 3) da_nil))))))))) (dss_one (ds_ret (dx_of do_bl))) dss_nil)
      (dss_one (ds_if (dt_not (dt_val (dx_f c_law_tells (hr.mono (by decide)) (da_cons (do_of (dx_M (pl := _) c_Sum_put T.Sum_cls (hr.mono (by decide)) (do_var 9) (da_cons (do_of dx_dic0) da_nil))) (da_cons (do_var 10) (da_cons (do_var 3) da_nil)))))) (dss_one (ds_ret (dx_of do_bl))) dss_nil)))) (fun pi pg pb => ps_for PassesOwn.never rfl pi pg pb)))
      (dss_one (ds_ret (dx_and (dx_cmp (o_eq hu64) s_eq (by first | exact nobehind _ (by decide) (by decide) | rfl) (do_var 4) (do_var 6)) (dx_one (dx_cmp (o_eq hu64) s_eq (by first | exact nobehind _ (by decide) (by decide) | rfl) (do_of (dx_cbR (fun p => pe_callB (c_sorted rfl) (by rfl) T.m_sorted boot_sorted p) f_sorted (da_cons (do_var 7) da_nil))) (do_of (dx_cbR (fun p => pe_callB (c_sorted rfl) (by rfl) T.m_sorted boot_sorted p) f_sorted (da_cons (do_var 8) da_nil)))) pe_one)))))))))
end K11

set_option Elab.async false
set_option linter.all false
set_option maxRecDepth 100000
set_option maxHeartbeats 4000000
namespace K11
open PySem PySem.Spec L2 PyProof.Rows QD
theorem ok_law_right {P : Program} {w : World} {K : PySem.W.Frag} {mg : Str → Option Value} {base : Heap} {Sum f : Addr} {fd : FuncData} (T : Txt K mg Sum) (c_Sum__add : Mth P w K mg base 6 Sum "__add__" ["self", "other"] (S_Sum__add K Sum)) (c_Sum__init : Mak P w K mg base 4 Sum "Sum" ["self", "modulus", "weights", "constant"] (S_Sum__init K Sum) []) (c_Sum__mul : Mth P w K mg base 6 Sum "__mul__" ["self", "number"] (S_Sum__mul K Sum)) (c_Sum__neg : Mth P w K mg base 7 Sum "__neg__" ["self"] (S_Sum__neg K Sum)) (c_Sum__sub : Mth P w K mg base 7 Sum "__sub__" ["self", "other"] (S_Sum__sub K Sum)) (c_law_added : Cal P w K mg base 1 "_law_added" ["one", "other", "by", "q"] (S_law_added K Sum)) (c_law_draw : Cal P w K mg base 1 "_law_draw" ["rng", "many"] (S_law_draw K Sum)) (c_law_drawnM : Cal P w K mg base 2 "_law_drawn" ["rng", "names", "q"] (S_law_drawnM K Sum)) (c_law_some_names : Cal P w K mg base 2 "_law_some_names" ["rng", "many"] (S_law_some_names K Sum)) (c_law_tells : Cal P w K mg base 3 "_law_tells" ["one", "model", "q"] (S_law_tells K Sum)) (c_law_values_right : Cal P w K mg base 8 "_law_values_right" ["rng", "names", "pairs", "q"] (S_law_values_right K Sum)) (F : FunU K "_law_right" st_law_right f fd) :
    FnOk P w K mg base CX0 9 f fd ["rng"] (S_law_right K Sum) :=
  fn_o (u := u_law_right Sum) F sc_law_right rfl 14 rfl fun cdv A outer s H E hr => by
    have hu := hu_of hr
    have hu64 := hr.units
    exact (dss_cons (ds_set 1 (dx_ixL (fun _ _ => rfl) (do_of (dx_lst (da_cons do_int (da_cons do_int (da_cons do_int (da_cons do_int (da_cons do_int (da_cons do_int da_nil)))))))) (do_of (dx_fO 0 c_law_draw (hr.mono (by decide)) (da_cons (do_var 0) (da_cons do_int da_nil))))) sc_law_right.nd)
      (dss_cons (ds_set 2 (dx_fO 0 c_law_some_names (hr.mono (by decide)) (da_cons (do_var 0) (da_cons (do_of (dx_bin o_add s_add do_int (do_of (dx_fO 0 c_law_draw (hr.mono (by decide)) (da_cons (do_var 0) (da_cons do_int da_nil)))))) da_nil))) sc_law_right.nd)
      (dss_cons (match c_law_drawnM.ex with | ⟨fa, fd, F, hm, hk, hb⟩ => ds_mix 0 3 4 5 6 (da_cons (do_var 0) (da_cons (do_var 2) (da_cons (do_var 1) da_nil))) (da_cons (do_var 0) (da_cons (do_var 2) (da_cons (do_var 1) da_nil))) (fun p1 p2 => ps_asg (pe_tup (pa_cons (pe_call F (hr.mono (by decide)) (by rfl) hm hk hb .nil pass0 p1) (pa_cons (pe_call F (hr.mono (by decide)) (by rfl) hm hk hb .nil pass0 p2) pa_nil))) (pg_tup rfl (pgs_cons (pg_tup rfl (pgs_cons (pg_name (i := 3) sc_law_right.nd rfl (by first | exact Or.inl rfl | exact Or.inr rfl)) (pgs_cons (pg_name (i := 4) sc_law_right.nd rfl (by first | exact Or.inl rfl | exact Or.inr rfl)) pgs_nil))) (pgs_cons (pg_tup rfl (pgs_cons (pg_name (i := 5) sc_law_right.nd rfl (by first | exact Or.inl rfl | exact Or.inr rfl)) (pgs_cons (pg_name (i := 6) sc_law_right.nd rfl (by first | exact Or.inl rfl | exact Or.inr rfl)) pgs_nil))) pgs_nil)))))
      (dss_cons (ds_asg (dx_tup (da_cons (do_gO (dx_C c_Sum__init (hr.mono (by decide)) (da_cons (do_var 1) (da_cons (do_var 4) (da_cons (do_p (dp_ixT (i := 1) (dp_var 3) pe_int (fun _ _ => rfl))) da_nil))) args0)) (da_cons (do_gO (dx_C c_Sum__init (hr.mono (by decide)) (da_cons (do_var 1) (da_cons (do_of (dx_cbF (fun p => pe_callTy (c_dict rfl) (by rfl) T.m_dict boot_dict p) f_dict (da_cons (do_of (dx_rev (do_of (dx_listItems (do_var 6) (by rfl) T.m_list boot_list)) (fun p => pe_revL p))) da_nil))) (da_cons (do_p (dp_ixT (i := 1) (dp_var 5) pe_int (fun _ _ => rfl))) da_nil))) args0)) da_nil))) (dtg_tup rfl (dtgs_cons (dtg_name 7 sc_law_right.nd) (dtgs_cons (dtg_name 8 sc_law_right.nd) dtgs_nil))) (fun p pg => ps_asg p pg))
      (dss_cons (ds_clr 4 (ps_expr (pe_dclear (pv 4))))
      (dss_cons (ds_set 9 (dx_lst (da_cons (do_of (dx_fO 0 c_law_draw (hr.mono (by decide)) (da_cons (do_var 0) (da_cons (do_var 1) da_nil)))) (da_cons (do_of (dx_bin op_sub s_sub (do_of (dx_un un_neg s_neg do_int)) (do_of (dx_fO 0 c_law_draw (hr.mono (by decide)) (da_cons (do_var 0) (da_cons do_int da_nil)))))) (da_cons (do_of (dx_bin o_add s_add (do_of (dx_bin op_pow s_pow do_int do_int)) (do_of (dx_fO 0 c_law_draw (hr.mono (by decide)) (da_cons (do_var 0) (da_cons do_int da_nil)))))) (da_cons (do_of (dx_bin op_sub s_sub (do_of (dx_un un_neg s_neg (do_of (dx_bin op_pow s_pow do_int do_int)))) (do_of (dx_fO 0 c_law_draw (hr.mono (by decide)) (da_cons (do_var 0) (da_cons do_int da_nil)))))) (da_cons do_int da_nil)))))) sc_law_right.nd)
      (dss_cons (ds_z (ds_forz (di_range1 (fun p => pi_range1 (by rfl) T.m_range p) (da_cons do_int da_nil)) (dtg_name 10 sc_law_right.nd) (dss_cons (ds_set 11 (dx_lst (da_cons (do_gO (dx_tup (da_cons (do_gO (dx_of (do_var 7))) (da_cons (do_gO (dx_of (do_var 3))) da_nil)))) (da_cons (do_gO (dx_tup (da_cons (do_gO (dx_of (do_var 8))) (da_cons (do_gO (dx_of (do_var 5))) da_nil)))) (da_cons (do_gO (dx_tup (da_cons (do_gO (dx_owB (op_owB_of c_Sum__add T.Sum_sf (hr.mono (by decide))) (do_var 7) (do_var 8))) (da_cons (do_gO (dx_f c_law_added (hr.mono (by decide)) (da_cons (do_var 3) (da_cons (do_var 5) (da_cons do_int (da_cons (do_var 1) da_nil)))))) da_nil)))) da_nil)))) sc_law_right.nd)
      (dss_cons (ds_set 11 (dx_binF op_catL f_cat (do_var 11) (do_of (dx_lst (da_cons (do_gO (dx_tup (da_cons (do_gO (dx_owB (op_owB_of c_Sum__sub T.Sum_sf (hr.mono (by decide))) (do_var 7) (do_var 8))) (da_cons (do_gO (dx_f c_law_added (hr.mono (by decide)) (da_cons (do_var 3) (da_cons (do_var 5) (da_cons (do_of (dx_un un_neg s_neg do_int)) (da_cons (do_var 1) da_nil)))))) da_nil)))) (da_cons (do_gO (dx_tup (da_cons (do_gO (dx_owN (op_owN_of c_Sum__neg (hr.mono (by decide))) (do_var 7))) (da_cons (do_gO (dx_f c_law_added (hr.mono (by decide)) (da_cons (do_of (dx_tup (da_cons (do_gO dx_dic0) (da_cons do_int da_nil)))) (da_cons (do_var 3) (da_cons (do_of (dx_un un_neg s_neg do_int)) (da_cons (do_var 1) da_nil)))))) da_nil)))) da_nil))))) sc_law_right.nd)
      (dss_cons (ds_set 11 (dx_binF op_catL f_cat (do_var 11) (do_of (dx_z (dx_lcz (fun pi pg pt p => pe_lc (own := [("number", 12)]) rfl sc_law_right.nd pi (blkOk_by (N := ["rng", "q", "names", "first", "handed", "second", "other_handed", "one", "other", "by", "turn", "pairs", "number", "told", "model"]) (sc := defScope st_law_right) (by decide +kernel)) pg pt p) (di_list (db_of (dx_of (do_var 9)))) (fun s H C cl fp => (dtg_name 12 sc_law_right.nd)) (by decide) (fun s H C cl fp => dts_nil) (fun s H C cl fp => (dg_of (dx_tup (da_cons (do_gO (dx_owI (op_owI_of c_Sum__mul T.Sum_sf T.Sum_int_mul (hr.mono (by decide))) (do_var 7) (do_var 12))) (da_cons (do_gO (dx_f c_law_added (hr.mono (by decide)) (da_cons (do_of (dx_tup (da_cons (do_gO dx_dic0) (da_cons do_int da_nil)))) (da_cons (do_var 3) (da_cons (do_var 12) (da_cons (do_var 1) da_nil)))))) da_nil))))))))) sc_law_right.nd)
      (dss_cons (ds_set 11 (dx_binF op_catL f_cat (do_var 11) (do_of (dx_lst (da_cons (do_gO (dx_tup (da_cons (do_gO (dx_owB (op_owB_of c_Sum__add T.Sum_sf (hr.mono (by decide))) (do_var 7) (do_var 7))) (da_cons (do_gO (dx_f c_law_added (hr.mono (by decide)) (da_cons (do_var 3) (da_cons (do_var 3) (da_cons do_int (da_cons (do_var 1) da_nil)))))) da_nil)))) (da_cons (do_gO (dx_tup (da_cons (do_gO (dx_owB (op_owB_of c_Sum__sub T.Sum_sf (hr.mono (by decide))) (do_var 8) (do_var 8))) (da_cons (do_gO (dx_tup (da_cons (do_gO dx_dic0) (da_cons do_int da_nil)))) da_nil)))) da_nil))))) sc_law_right.nd)
      (dss_one (ds_if (dt_not (dt_val (dx_cbS (fun p => pe_callB (cr_all rfl) (by rfl) T.m_all boot_all p) s_all (da_cons (do_of (dx_z (dx_lcz (fun pi pg pt p => pe_lc (own := [("told", 13), ("model", 14)]) rfl sc_law_right.nd pi (blkOk_by (N := ["rng", "q", "names", "first", "handed", "second", "other_handed", "one", "other", "by", "turn", "pairs", "number", "told", "model"]) (sc := defScope st_law_right) (by decide +kernel)) pg pt p) (di_list (db_of (dx_of (do_var 11)))) (fun s H C cl fp => (dtg_tup rfl (dtgs_cons (dtg_name 13 sc_law_right.nd) (dtgs_cons (dtg_name 14 sc_law_right.nd) dtgs_nil)))) (by decide) (fun s H C cl fp => dts_nil) (fun s H C cl fp => (dg_of (dx_f c_law_tells (hr.mono (by decide)) (da_cons (do_var 13) (da_cons (do_var 14) (da_cons (do_var 1) da_nil))))))))) da_nil)))) (dss_one (ds_ret (dx_of do_bl))) dss_nil)))))) (fun pi pg pb => ps_for PassesOwn.never rfl pi pg pb)))
      (dss_one (ds_ret (dx_fO 0 c_law_values_right (hr.mono (by decide)) (da_cons (do_var 0) (da_cons (do_var 2) (da_cons (do_of (dx_lst (da_cons (do_gO (dx_tup (da_cons (do_gO (dx_of (do_var 7))) (da_cons (do_gO (dx_of (do_var 3))) da_nil)))) (da_cons (do_gO (dx_tup (da_cons (do_gO (dx_of (do_var 8))) (da_cons (do_gO (dx_of (do_var 5))) da_nil)))) da_nil)))) (da_cons (do_var 1) da_nil))))))))))))))
end K11

set_option Elab.async false
set_option linter.all false
set_option maxRecDepth 100000
set_option maxHeartbeats 4000000
namespace K11
open PySem PySem.Spec L2 PyProof.Rows QD
theorem ok_law {P : Program} {w : World} {K : PySem.W.Frag} {mg : Str → Option Value} {base : Heap} {Sum f : Addr} {fd : FuncData} (T : Txt K mg Sum) (c_law_right : Cal P w K mg base 9 "_law_right" ["rng"] (S_law_right K Sum)) (c_law_rng : Cal P w K mg base 1 "_law_rng" ["script", "k"] (S_law_rng K Sum)) (F : FunU K "law" st_law f fd) :
    FnOk P w K mg base CX0 10 f fd ["script"] (S_law K Sum) :=
  fn_d (u := u_law Sum) F sc_law rfl 3 rfl fun cdv A outer s H E hr => by
    have hu := hu_of hr
    have hu64 := hr.units
    exact (dss_cons (ds_z (ds_forz (di_range1 (fun p => pi_range1 (by rfl) T.m_range p) (da_cons (do_of (dx_cbS (fun p => pe_callB (call_max2 rfl) (by rfl) T.m_max boot_max p) s_max (da_cons do_int (da_cons (do_of (dx_cbS (fun p => pe_callB (call_min2 rfl) (by rfl) T.m_min boot_min p) s_min (da_cons do_int (da_cons (do_of (dx_cbS (fun p => pe_callB c_len (by rfl) T.m_len boot_len p) s_len (da_cons (do_var 0) da_nil))) da_nil)))) da_nil)))) da_nil)) (dtg_name 1 sc_law.nd) (dss_cons (ds_set 2 (dx_f c_law_rng (hr.mono (by decide)) (da_cons (do_var 0) (da_cons (do_var 1) da_nil))) sc_law.nd)
      (dss_one (ds_z (ds_forz (di_range1 (fun p => pi_range1 (by rfl) T.m_range p) (da_cons do_int da_nil)) (dtg_name 3 sc_law.nd) (dss_one (ds_if (dt_not (dt_val (dx_fO 2 c_law_right (hr.mono (by decide)) (da_cons (do_var 2) da_nil)))) (dss_one (ds_ret (dx_of do_bl))) dss_nil)) (fun pi pg pb => ps_for PassesOwn.never rfl pi pg pb))))) (fun pi pg pb => ps_for PassesOwn.never rfl pi pg pb)))
      (dss_one (ds_ret (dx_of do_bl))))
end K11

set_option Elab.async false
set_option linter.all false
set_option maxRecDepth 100000
set_option maxHeartbeats 4000000
namespace K11
open PySem PySem.Spec L2 PyProof.Rows QD QD.Ev
/-! the plain side of sums.py -/
theorem kit_ii : kitB "int" "int" = some true := by decide +kernel
theorem kit_ib : kitB "int" "bool" = some false := by decide +kernel
theorem kit_ss : kitB "str" "str" = some true := by decide +kernel
theorem kit_dd : kitB "dict" "dict" = some true := by decide +kernel
section fnl
variable {i j : Int} {x z : Str} {C : Addr} {cs : List Addr} {ds es : List D} {T : String} {kds : List (Key × D)} {fs : List (Str × D)}
@[simp] theorem isT_i : isT cs T [.int i] = (kitB "int" T).map .bl := rfl
@[simp] theorem isT_s : isT cs T [.str x] = (kitB "str" T).map .bl := rfl
@[simp] theorem isT_d : isT cs T [.dic kds] = (kitB "dict" T).map .bl := rfl
@[simp] theorem isT_l : isT cs T [.lst ds] = (kitB "list" T).map .bl := rfl
@[simp] theorem isT_t : isT cs T [.tup ds] = (kitB "tuple" T).map .bl := rfl
@[simp] theorem isT_b {b : Bool} : isT cs T [.bl b] = (kitB "bool" T).map .bl := rfl
@[simp] theorem isT_n : isT cs T [.non] = (kitB "NoneType" T).map .bl := rfl
@[simp] theorem isC_i : isC C [.ins C fs] = some (.bl true) := by unfold isC; simp
@[simp] theorem f_leI : leI (.int i) (.int j) = some (.bl (decide (i ≤ j))) := rfl
@[simp] theorem f_ltI : ltI (.int i) (.int j) = some (.bl (decide (i < j))) := rfl
@[simp] theorem f_gtI : gtI (.int i) (.int j) = some (.bl (decide (j < i))) := rfl
@[simp] theorem f_addI : addI (.int i) (.int j) = some (.int (i + j)) := rfl
@[simp] theorem f_subI : subI (.int i) (.int j) = some (.int (i - j)) := rfl
@[simp] theorem f_negI : negI (.int i) = some (.int (-i)) := rfl
theorem f_mulI (h : small i = true ∨ small j = true) : mulI (.int i) (.int j) = some (.int (i * j)) := by
  show (if (small i || small j) = true then _ else none) = _
  rw [if_pos (by rw [Bool.or_eq_true]; exact h)]
theorem f_modI (h : 0 < j) : modI (.int i) (.int j) = some (.int (i % j)) := if_pos h
theorem f_fdivI (h : 0 < j) (h2 : j < 1073741824) : fdivI (.int i) (.int j) = some (.int (i / j)) := if_pos ⟨h, h2⟩
theorem f_len (h : x.length ≤ sizeLine) : lenD [.str x] = some (.int x.length) := by unfold lenD; simp [h]
@[simp] theorem f_lenl : lenD [.lst ds] = some (.int ds.length) := rfl
@[simp] theorem f_lent : lenD [.tup ds] = some (.int ds.length) := rfl
@[simp] theorem f_intD : intD [.int i] = some (.int i) := rfl
@[simp] theorem f_absD : absD [.int i] = some (.int (if i < 0 then -i else i)) := rfl
@[simp] theorem f_maxD : maxD [.int i, .int j] = some (.int (if j > i then j else i)) := rfl
@[simp] theorem f_minD : minD [.int i, .int j] = some (.int (if j < i then j else i)) := rfl
@[simp] theorem f_dictd : dictD [.dic kds] = some (.dic kds) := rfl
end fnl
theorem all_true {α : Type} (l : List α) : allD [.lst (l.map fun _ => .bl true)] = some (.bl true) := by
  show ((l.map fun _ => D.bl true).mapM asBl).map _ = _
  have : (l.map fun _ => D.bl true).mapM asBl = some (l.map fun _ => true) := by
    induction l with
    | nil => rfl
    | cons a l ih => simp [List.mapM_cons, ih]; rfl
  rw [this]; simp
theorem r_is_integer {C : Addr} {XQ} {i : Int} {QR : R → Prop} : t_is_integer C XQ [.int i] QR = QR (.s (.bl true)) := by
  simp [t_is_integer, u_is_integer, kit_ii, kit_ib]
theorem r_is_number {C : Addr} {XQ} {i q : Int} {QR : R → Prop} (h0 : 0 ≤ i) (h1 : i < q) : t_is_number C XQ [.int i, .int q] QR = QR (.s (.bl true)) := by
  simp [t_is_number, u_is_number, r_is_integer, h0, h1]
structure Nm (x : Str) : Prop where
  lo : 1 ≤ x.length
  hi : x.length ≤ 12
  first : ∃ c, atI x.cps.toList 0 = some c ∧ c ∈ lettersS.cps.toList
  all : ∀ c ∈ x.cps.toList, c ∈ signsS.cps.toList
theorem in_one {c : Nat} {z : Str} : inD (.str ⟨#[c]⟩) (.str z) = some (.bl (decide (c ∈ z.cps.toList))) := rfl
theorem r_is_name {C : Addr} {XQ} {x : Str} {QR : R → Prop} (n : Nm x) : t_is_name C XQ [.str x] QR = QR (.s (.bl true)) := by
  have h1 : x.length ≤ sizeLine := by have := n.hi; rw [sizeLine_eq]; omega
  have h2 : (1 : Int) ≤ x.length := by have := n.lo; omega
  have h3 : (x.length : Int) ≤ 12 := by have := n.hi; omega
  obtain ⟨c, h4, h5⟩ := n.first
  have h6 : ixSD (.str x) (.int 0) = some (.str ⟨#[c]⟩) := by show (if x.length ≤ sizeLine then _ else none) = _; rw [if_pos h1, h4]; rfl
  have h7 : ninD (.str ⟨#[c]⟩) (.str lettersS) = some (.bl false) := by
    show ((some (decide (c ∈ lettersS.cps.toList))).map fun k => D.bl (!k)) = _
    rw [decide_eq_true h5]; rfl
  simp [t_is_name, u_is_name, kit_ss, f_len h1, h2, h3, h6, h7]
  rw [comp_map (fun _ => .bl true) (strA x) [] (fun a ha acc Kc => ?_) ?_]
  · simp [all_true]
  · have : (strA x).length = x.length := by unfold strA; simp [Str.length]
    simp; omega
  · obtain ⟨c, hc, rfl⟩ := List.mem_map.mp ha
    simp [in_one, n.all c hc]
/-- numbers under names -/
def Wok (q : Int) (w : W) : Prop := ∀ p ∈ w, Nm p.1 ∧ 0 ≤ p.2 ∧ p.2 < q
theorem flat_toK (w : W) : ((toK w).all fun p => p.2.flat) = true := by
  rw [List.all_eq_true]; intro p hp
  obtain ⟨r, _, rfl⟩ := List.mem_map.mp hp
  rfl
theorem r_is_world {C : Addr} {XQ} {w : W} {q : Int} {QR : R → Prop} (h : Wok q w) (hl : w.length ≤ 1000) : t_is_world C XQ [.dic (toK w), .int q] QR = QR (.s (.bl true)) := by
  simp [t_is_world, u_is_world, kit_dd]
  rw [comp_map (fun _ => .bl true) (itemsKA (toK w)) [] (fun a ha acc Kc => ?_) ?_]
  · simp [all_true]
    intro _ a b hab
    obtain ⟨r, _, e⟩ := List.mem_map.mp hab
    cases e; rfl
  · have : (itemsKA (toK w)).length = w.length := by unfold itemsKA; rw [List.length_map, len_toK]
    rw [sizeLine_eq]; simp; omega
  · obtain ⟨p, hp, rfl⟩ := List.mem_map.mp ha
    obtain ⟨r, hr, rfl⟩ := List.mem_map.mp hp
    obtain ⟨h1, h2, h3⟩ := h r hr
    simp [keyD, r_is_name h1, r_is_number h2 h3]

theorem Wok.sub {q : Int} {w v : W} (h : Wok q w) (hs : ∀ p ∈ v, p ∈ w) : Wok q v := fun p hp => h p (hs p hp)
def Md (q : Int) : Prop := q = 2 ∨ q = 3 ∨ q = 5 ∨ q = 7 ∨ q = 11 ∨ q = 13
theorem Md.pos {q : Int} (h : Md q) : 0 < q ∧ q < 14 := by rcases h with rfl | rfl | rfl | rfl | rfl | rfl <;> decide
theorem nin_mod {q : Int} (h : Md q) : ninD (.int q) (.tup moduliD) = some (.bl false) := by
  rcases h with rfl | rfl | rfl | rfl | rfl | rfl <;> rfl
theorem r_want {C : Addr} {XQ} {q : Int} {QR : R → Prop} (h : Md q) : t_want_modulus C XQ [.int q] QR = QR (.s .non) := by
  simp [t_want_modulus, u_want_modulus, r_is_integer, nin_mod h]
@[simp] theorem f_neI {i j : Int} : neD (.int i) (.int j) = some (.bl (!(i == j))) := rfl
@[simp] theorem f_eqI {i j : Int} : eqD (.int i) (.int j) = some (.bl (i == j)) := rfl
def fsS (q : Int) (w : W) (c : Int) : List (Str × D) := [("own_modulus", .int q), ("own_weights", .dic (toK w)), ("own_constant", .int c)]
def sumD (C : Addr) (q : Int) (w : W) (c : Int) : D := .ins C (fsS q w c)
theorem put3 (q : Int) (w : W) (c : Int) : putFD "own_constant" (.int c) (putFD "own_weights" (.dic (toK w)) (putFD "own_modulus" (.int q) [])) = fsS q w c := by
  have h1 : ¬ (("own_modulus" : Str) = "own_weights") := by decide +kernel
  have h2 : ¬ (("own_modulus" : Str) = "own_constant") := by decide +kernel
  have h3 : ¬ (("own_weights" : Str) = "own_constant") := by decide +kernel
  simp [putFD, h1, h2, h3, fsS]
@[simp] theorem shallow_toK (w : W) : D.shallow (.dic (toK w)) = true := flat_toK w
theorem ixK_toK {w : W} (hn : (names w).Nodup) {n : Str} (h : n ∈ names w) : ixK (.dic (toK w)) (.str n) = some (.int (getW w n)) := by
  show (valD (toK w) (.inr n)) = _
  rw [valD_toK]
  obtain ⟨p, hp, rfl⟩ := List.mem_map.mp h
  rw [getO_mem hn hp]
  unfold getW; rw [getO_mem hn hp]; rfl
theorem items_str {l : List Str} {d : D} : itemsA (.g d) (l.map .str) = l.map fun n => .g (.str n) := by unfold itemsA; rw [List.map_map]; rfl
theorem merge_nrm {w : W} (hn : (names w).Nodup) : mergeD [] (toK (nrm w)) = toK (nrm w) := by
  rw [mergeD_new (nodup_keys (nodup_nrm hn)) (by simp)]; simp
theorem len_putFD (f : Str) (d : D) : ∀ gs : List (Str × D), (putFD f d gs).length ≤ gs.length + 1
  | [] => by simp [putFD]
  | (g, x) :: r => by
    have := len_putFD f d r
    unfold putFD
    split <;> simp <;> omega
theorem r_init {C : Addr} {XQ} {q c : Int} {w : W} {QO : D → R → Prop} (hm : Md q) (h : Wok q w) (hn : (names w).Nodup) (hl : w.length < 64) (c0 : 0 ≤ c) (c1 : c < q) : t_Sum__init C XQ (.ins C []) [.int q, .dic (toK w), .int c] QO = QO (sumD C q (nrm w) c) (.s .non) := by
  have hk : keysS (toK w) = some (names w) := keys_toK w
  have hln : (names w).length < 64 := by unfold names; rw [List.length_map]; exact hl
  simp [t_Sum__init, u_Sum__init, r_want hm, r_is_world h (by omega), r_is_number c0 c1, e_sortedD hk hln]
  rw [dcomp_filter (keepF w) (itemsA (.g (.lst ((sortS (names w)).map .str))) ((sortS (names w)).map .str)) [] (fun a ha acc Kc => ?_) ?_]
  · rw [items_str, keep_names hn, merge_nrm hn]
    have l1 := len_putFD "own_modulus" (D.int q) []
    have l2 := len_putFD "own_weights" (D.dic (toK (nrm w))) (putFD "own_modulus" (D.int q) [])
    simp at l1
    simp [sumD, put3]
    exact ⟨fun z => z.2.2, fun z => ⟨by omega, by omega, z⟩⟩
  · rw [items_str, sizeLine_eq]
    have := (sortS_perm (names w)).length_eq
    simp; omega
  · rw [items_str] at ha
    obtain ⟨n, hn', rfl⟩ := List.mem_map.mp ha
    have hm' : n ∈ names w := (sortS_perm _).mem_iff.mp hn'
    by_cases z : getW w n = 0
    · simp [ixK_toK hn hm', keepF, z]
    · simp [ixK_toK hn hm', keepF, z]

theorem lk_m (q : Int) (w : W) (c : Int) : (fsS q w c).lookup ("own_modulus" : Str) = some (D.int q) := by
  unfold fsS; rw [List.lookup_cons, show (("own_modulus" : Str) == "own_modulus") = true by decide +kernel]
theorem lk_w (q : Int) (w : W) (c : Int) : (fsS q w c).lookup ("own_weights" : Str) = some (D.dic (toK w)) := by
  unfold fsS; rw [List.lookup_cons, show (("own_weights" : Str) == "own_modulus") = false by decide +kernel, List.lookup_cons, show (("own_weights" : Str) == "own_weights") = true by decide +kernel]
theorem lk_c (q : Int) (w : W) (c : Int) : (fsS q w c).lookup ("own_constant" : Str) = some (D.int c) := by
  unfold fsS; rw [List.lookup_cons, show (("own_constant" : Str) == "own_modulus") = false by decide +kernel, List.lookup_cons, show (("own_constant" : Str) == "own_weights") = false by decide +kernel, List.lookup_cons, show (("own_constant" : Str) == "own_constant") = true by decide +kernel]
/-- no method stands among the fields -/
theorem lk_no {m : Str} (q : Int) (w : W) (c : Int) (h1 : (m == "own_modulus") = false) (h2 : (m == "own_weights") = false) (h3 : (m == "own_constant") = false) : (fsS q w c).lookup m = none := by
  unfold fsS; rw [List.lookup_cons, h1, List.lookup_cons, h2, List.lookup_cons, h3]; rfl
section
variable {C : Addr} {XQ : XP} {q c : Int} {w : W} {QR : R → Prop}
theorem r_modulus : t_Sum_modulus C XQ [.ins C (fsS q w c)] QR = QR (.s (.int q)) := by
  simp [t_Sum_modulus, u_Sum_modulus, lk_m]
theorem r_constant : t_Sum_constant C XQ [.ins C (fsS q w c)] QR = QR (.s (.int c)) := by
  simp [t_Sum_constant, u_Sum_constant, lk_c]
theorem r_weights : t_Sum_weights C XQ [.ins C (fsS q w c)] QR = QR (.o (.dic (toK w))) := by
  simp [t_Sum_weights, u_Sum_weights, lk_w]
theorem r_names : t_Sum_names C XQ [.ins C (fsS q w c)] QR = QR (.o (.lst ((names w).map .str))) := by
  have : listD [.dic (toK w)] = some (.lst ((names w).map .str)) := by
    show some (D.lst ((toK w).map fun p => keyD p.1)) = _
    unfold toK names; rw [List.map_map, List.map_map]; rfl
  simp [t_Sum_names, u_Sum_names, lk_w, this]
theorem eq_emp : eqD (.dic (toK w)) (.dic []) = some (.bl (decide (w = []))) := by
  have h1 : ((toK w).all fun p => flat4 p.2) = true := by
    rw [List.all_eq_true]; intro p hp
    obtain ⟨r, _, rfl⟩ := List.mem_map.mp hp
    rfl
  show (if ((toK w).all fun p => flat4 p.2) && _ then _ else none).map _ = _
  rw [h1]
  cases w with
  | nil => rfl
  | cons p w => rfl
theorem r_is_constant : t_Sum_is_constant C XQ [.ins C (fsS q w c)] QR = QR (.s (.bl (decide (w = [])))) := by
  simp [t_Sum_is_constant, u_Sum_is_constant, lk_w, eq_emp]
theorem r_weight_s {n : Str} : t_Sum_weight C XQ [.ins C (fsS q w c), .str n] QR = QR (.s (.int (getW w n))) := by
  simp [t_Sum_weight, u_Sum_weight, lk_w, kit_ss, valD_toK]
  unfold getW
  cases getO w n <;> simp
theorem r_want_alike {w2 : W} {c2 : Int} : t_Sum_want_alike C XQ [.ins C (fsS q w c), .ins C (fsS q w2 c2)] QR = QR (.s .non) := by
  simp [t_Sum_want_alike, u_Sum_want_alike, lk_m, r_modulus]
end
end K11

set_option Elab.async false
set_option linter.all false
set_option maxRecDepth 100000
set_option maxHeartbeats 4000000
namespace K11
open PySem PySem.Spec L2 PyProof.Rows QD QD.Ev
/-- a sum's numbers as they stand in it -/
structure Can (q : Int) (w : W) : Prop where
  ok : Wok q w
  nd : (names w).Nodup
  ln : w.length < 64
def mapW (f : Int → Int) (w : W) : W := w.map fun p => (p.1, f p.2)
theorem names_mapW (f : Int → Int) (w : W) : names (mapW f w) = names w := by unfold names mapW; rw [List.map_map]; rfl
theorem Can.map {q : Int} {w : W} (h : Can q w) (hq : 0 < q) (f : Int → Int) : Can q (mapW (fun v => f v % q) w) := by
  refine ⟨fun p hp => ?_, by rw [names_mapW]; exact h.nd, by unfold mapW; rw [List.length_map]; exact h.ln⟩
  obtain ⟨r, hr, rfl⟩ := List.mem_map.mp hp
  exact ⟨(h.ok r hr).1, Int.emod_nonneg _ (by omega), Int.emod_lt_of_pos _ hq⟩
theorem Can.nrm {q : Int} {w : W} (h : Can q w) : Can q (nrm w) := by
  have hs : ∀ p ∈ QD.Ev.nrm w, p ∈ w := fun p hp => (sortW_perm w).mem_iff.mp (List.mem_filter.mp hp).1
  refine ⟨h.ok.sub hs, nodup_nrm h.nd, ?_⟩
  have := List.length_filter_le (fun p : Str × Int => decide (p.2 ≠ 0)) (sortW w)
  have := (sortW_perm w).length_eq
  unfold QD.Ev.nrm
  have := h.ln
  omega
theorem items_toK (w : W) : itemsKA (toK w) = w.map fun p => .g (.tup [.str p.1, .int p.2]) := by unfold itemsKA toK; rw [List.map_map]; rfl
theorem all_flat (w : W) : (toK w).all (fun p => p.2.flat) = true := flat_toK w
theorem all_flat' (w : W) : ∀ (a : Key) (b : D), (a, b) ∈ toK w → b.flat = true := fun a b h => by
  obtain ⟨r, _, e⟩ := List.mem_map.mp h
  cases e; rfl
theorem small_of {q v : Int} (hm : Md q) (h0 : 0 ≤ v) (h1 : v < q) : small v = true := by
  have := hm.pos
  unfold small
  rw [Bool.and_eq_true, decide_eq_true_eq, decide_eq_true_eq]
  omega
theorem f_mulS {q v k : Int} (hm : Md q) (h0 : 0 ≤ v) (h1 : v < q) : mulI (.int v) (.int k) = some (.int (v * k)) := f_mulI (.inl (small_of hm h0 h1))
theorem mod_lt {q : Int} (hm : Md q) (x : Int) : 0 ≤ x % q ∧ x % q < q := ⟨Int.emod_nonneg _ (by have := hm.pos; omega), Int.emod_lt_of_pos _ hm.pos.1⟩
def mulF (q k : Int) (a : A) : Option (Key × D) := match a with
  | .g (.tup [.str n, .int v]) => some (.inr n, .int (v * k % q))
  | _ => none
theorem mul_items (q k : Int) : ∀ w : W, (itemsKA (toK w)).filterMap (mulF q k) = toK (mapW (fun v => v * k % q) w)
  | [] => rfl
  | p :: w => by
    have ih := mul_items q k w
    rw [items_toK] at ih ⊢
    have e : mulF q k (A.g (D.tup [D.str p.1, D.int p.2])) = some (Sum.inr p.1, D.int (p.2 * k % q)) := rfl
    rw [List.map_cons, List.filterMap_cons, e]
    simp only [ih]
    rfl
theorem merge_can {q : Int} {w : W} (h : Can q w) : mergeD [] (toK w) = toK w := by
  rw [mergeD_new (nodup_keys h.nd) (by simp)]; simp
/-- a sum's numbers times k -/
def mulW (q k : Int) (w : W) : W := nrm (mapW (fun v => v * k % q) w)
theorem r_mul {C : Addr} {XQ : XP} {q c k : Int} {w : W} {QR : R → Prop} (hm : Md q) (h : Can q w) (c0 : 0 ≤ c) (c1 : c < q) : t_Sum__mul C XQ [.ins C (fsS q w c), .int k] QR = QR (.o (.ins C (fsS q (mulW q k w) (c * k % q)))) := by
  have hp := hm.pos
  have h2 := h.map hp.1 (fun v => v * k)
  have hc := mod_lt hm (c * k)
  simp [t_Sum__mul, u_Sum__mul, r_is_integer, lk_w, lk_m, lk_c, f_mulS hm c0 c1, f_modI hp.1]
  rw [dcomp_filter (mulF q k) (itemsKA (toK w)) [] (fun a ha acc Kc => ?_) ?_]
  · rw [mul_items, merge_can h2]
    simp [lk_m, lk_c, f_mulS hm c0 c1, f_modI hp.1, r_init hm h2.ok h2.nd h2.ln hc.1 hc.2, sumD, mulW]
    exact fun _ => all_flat' w
  · rw [items_toK, sizeLine_eq]
    have := h.ln
    simp; omega
  · rw [items_toK] at ha
    obtain ⟨p, hp', rfl⟩ := List.mem_map.mp ha
    obtain ⟨_, z1, z2⟩ := h.ok p hp'
    simp [lk_m, f_mulS hm z1 z2, f_modI hp.1, mulF]
theorem Can.mul {q : Int} {w : W} (h : Can q w) (hm : Md q) (k : Int) : Can q (mulW q k w) := (h.map hm.pos.1 (fun v => v * k)).nrm
theorem len_mulW (q k : Int) (w : W) : (mulW q k w).length ≤ w.length := by
  have := List.length_filter_le (fun p : Str × Int => decide (p.2 ≠ 0)) (sortW (mapW (fun v => v * k % q) w))
  have e := (sortW_perm (mapW (fun v => v * k % q) w)).length_eq
  have e2 : (mapW (fun v => v * k % q) w).length = w.length := by unfold mapW; rw [List.length_map]
  unfold mulW nrm
  omega
end K11

set_option Elab.async false
set_option linter.all false
set_option maxRecDepth 100000
set_option maxHeartbeats 4000000
namespace K11
open PySem PySem.Spec L2 PyProof.Rows QD QD.Ev
theorem r_neg {C : Addr} {XQ : XP} {q c : Int} {w : W} {QR : R → Prop} (hm : Md q) (h : Can q w) (c0 : 0 ≤ c) (c1 : c < q) : t_Sum__neg C XQ [.ins C (fsS q w c)] QR = QR (.o (.ins C (fsS q (mulW q (-1) w) (-c % q)))) := by
  simp [t_Sum__neg, u_Sum__neg, r_mul hm h c0 c1]
/-- a number is stored under a name -/
def putW (w : W) (n : Str) (i : Int) : W := if n ∈ names w then w.map fun p => if p.1 = n then (p.1, i) else p else w ++ [(n, i)]
theorem putD_toK (w : W) (n : Str) (i : Int) : putD (toK w) (.inr n) (.int i) = toK (putW w n i) := by
  unfold putD putW
  have e : ((toK w).any fun kv => decide (kv.1 = Sum.inr n)) = true ↔ n ∈ names w := by
    rw [List.any_eq_true]
    constructor
    · rintro ⟨p, hp, z⟩
      obtain ⟨r, hr, rfl⟩ := List.mem_map.mp hp
      have z : (Sum.inr r.1 : Key) = Sum.inr n := of_decide_eq_true z
      exact List.mem_map.mpr ⟨r, hr, Sum.inr.inj z⟩
    · intro h
      obtain ⟨r, hr, rfl⟩ := List.mem_map.mp h
      exact ⟨_, List.mem_map.mpr ⟨r, hr, rfl⟩, decide_eq_true rfl⟩
  by_cases h : n ∈ names w
  · rw [if_pos (e.mpr h), if_pos h]
    unfold toK; rw [List.map_map, List.map_map]
    refine List.map_congr_left fun p _ => ?_
    show (if (Sum.inr p.1 : Key) = Sum.inr n then _ else _) = _
    by_cases z : p.1 = n
    · rw [if_pos (by rw [z])]; simp [z]
    · rw [if_neg (fun y => z (Sum.inr.inj y))]; simp [z]
  · rw [if_neg (fun y => h (e.mp y)), if_neg h]
    unfold toK; rw [List.map_append]; rfl
theorem names_putW (w : W) (n : Str) (i : Int) : names (putW w n i) = if n ∈ names w then names w else names w ++ [n] := by
  unfold putW
  by_cases h : n ∈ names w
  · rw [if_pos h, if_pos h]
    unfold names; rw [List.map_map]
    refine List.map_congr_left fun p _ => ?_
    by_cases z : p.1 = n <;> simp [z]
  · rw [if_neg h, if_neg h]
    unfold names; rw [List.map_append]; rfl
theorem nodup_putW {w : W} (h : (names w).Nodup) (n : Str) (i : Int) : (names (putW w n i)).Nodup := by
  rw [names_putW]
  by_cases z : n ∈ names w
  · rw [if_pos z]; exact h
  · rw [if_neg z]
    rw [List.nodup_append]
    exact ⟨h, by simp, fun a ha b hb e => z (by simp at hb; rw [← hb, ← e]; exact ha)⟩
theorem len_putW (w : W) (n : Str) (i : Int) : (putW w n i).length ≤ w.length + 1 := by
  unfold putW; split <;> simp
theorem Wok.put {q : Int} {w : W} (h : Wok q w) {n : Str} {i : Int} (hn : Nm n) (h0 : 0 ≤ i) (h1 : i < q) : Wok q (putW w n i) := fun p hp => by
  unfold putW at hp
  split at hp
  · obtain ⟨r, hr, rfl⟩ := List.mem_map.mp hp
    by_cases z : r.1 = n
    · simp only [z, if_true]; exact ⟨hn, h0, h1⟩
    · simp only [z, if_false]; exact h r hr
  · rcases List.mem_append.mp hp with z | z
    · exact h p z
    · simp at z; subst z; exact ⟨hn, h0, h1⟩
theorem getD_W (w : W) (n : Str) {a c : A} {QD : KE'} {L : Env'} (hc : c = .g (.int 0)) (ha : ∀ i, a.el (.int i) = .g (.int i)) : getR a c QD L (valD (toK w) (.inr n)) = QD L (.g (.int (getW w n))) := by
  rw [valD_toK]
  unfold getW
  cases e : getO w n with
  | none => simp [hc]
  | some i => simp [ha]
/-- the second's numbers added -/
def addW (q : Int) (w : W) (p : Str × Int) : W := putW w p.1 ((getW w p.1 + p.2) % q)
section
variable {C0 : Addr} {XQ : XP} {q c c2 : Int} {w w2 : W} {QR : R → Prop}
/-- the slots of __add__ in its loop -/
def envA (C0 : Addr) (fs gs : List (Str × D)) (s : W × Option C × Option C) : Env' := [some (.b (.ins C0 fs)), some (.b (.ins C0 gs)), some (.o (.dic (toK s.1))), s.2.1, s.2.2]
def stepA (q : Int) (s : W × Option C × Option C) (p : Str × Int) : W × Option C × Option C := (addW q s.1 p, some (.g (.str p.1)), some (.g (.int p.2)))
theorem add_loop {wt : UTg} {us : US} {DD : ED} {fs gs : List (Str × D)} (hm : Md q) : ∀ (l : W) (s : W × Option C × Option C), Wok q s.1 → (names s.1).Nodup → Wok q l → s.1.length + l.length < 64 → (∀ x, s.2.1 ≠ some (.p x)) → (∀ x, s.2.2 ≠ some (.p x)) →
    (∀ (s : W × Option C × Option C) (p : Str × Int) N, s.1.length < 64 → (∀ x, s.2.1 ≠ some (.p x)) → (∀ x, s.2.2 ≠ some (.p x)) → wt (envA C0 fs gs s) (.g (.tup [.str p.1, .int p.2])) (kLp us XQ N DD) = N (envA C0 fs gs (stepA q s p))) →
      uLoop wt us XQ DD (itemsKA (toK l)) (envA C0 fs gs s) = DD.nx (envA C0 fs gs (l.foldl (stepA q) s))
  | [], s, _, _, _, _, _, _, _ => rfl
  | p :: l, s, h1, h2, h3, hl, n1, n2, step => by
    simp only [List.length_cons] at hl
    have hb := mod_lt hm (getW s.1 p.1 + p.2)
    have w1 := h1.put (h3 p (by simp)).1 hb.1 hb.2
    have ln := len_putW s.1 p.1 ((getW s.1 p.1 + p.2) % q)
    have e := add_loop hm l (stepA q s p) w1 (nodup_putW h2 _ _) (fun r hr => h3 r (by simp [hr])) (by show (putW _ _ _).length + _ < 64; omega) (fun _ z => nomatch z) (fun _ z => nomatch z) step
    show uLoop wt us XQ DD (.g (.tup [.str p.1, .int p.2]) :: itemsKA (toK l)) _ = _
    rw [e_loop1, step s p _ (by omega) n1 n2, e]
    rfl
theorem add_inv (hm : Md q) : ∀ (l s : W), Wok q s → (names s).Nodup → Wok q l → Wok q (l.foldl (addW q) s) ∧ (names (l.foldl (addW q) s)).Nodup ∧ (l.foldl (addW q) s).length ≤ s.length + l.length
  | [], s, h1, h2, _ => ⟨h1, h2, by simp⟩
  | p :: l, s, h1, h2, h3 => by
    have hb := mod_lt hm (getW s p.1 + p.2)
    have w1 := h1.put (h3 p (by simp)).1 hb.1 hb.2
    have ln := len_putW s p.1 ((getW s p.1 + p.2) % q)
    obtain ⟨g1, g2, g3⟩ := add_inv hm l (addW q s p) w1 (nodup_putW h2 _ _) fun r hr => h3 r (by simp [hr])
    refine ⟨g1, g2, ?_⟩
    have g3 : (l.foldl (addW q) (addW q s p)).length ≤ (putW s p.1 ((getW s p.1 + p.2) % q)).length + l.length := g3
    simp only [List.length_cons, List.foldl_cons]
    omega
theorem step_fst : ∀ (l : W) (s : W × Option C × Option C), (l.foldl (stepA q) s).1 = l.foldl (addW q) s.1
  | [], s => rfl
  | p :: l, s => step_fst l (stepA q s p)
theorem np_of {x : Option C} (h : ∀ z, x ≠ some (.p z)) : npC (some x) = true := by
  cases x with
  | none => rfl
  | some c => cases c <;> first | rfl | exact absurd rfl (h _)
theorem r_add (hm : Md q) (h : Can q w) (h2 : Can q w2) (hl : w.length + w2.length < 64) : t_Sum__add C0 XQ [.ins C0 (fsS q w c), .ins C0 (fsS q w2 c2)] QR = QR (.o (.ins C0 (fsS q (nrm (w2.foldl (addW q) w)) ((c + c2) % q)))) := by
  have hp := hm.pos
  have hc := mod_lt hm (c + c2)
  simp [t_Sum__add, u_Sum__add, lk_w, lk_m, lk_c, r_want_alike, lk_no (m := "want_alike") q w c (by decide +kernel) (by decide +kernel) (by decide +kernel), r_weights, lk_no (m := "weights") q w2 c2 (by decide +kernel) (by decide +kernel) (by decide +kernel)]
  obtain ⟨g1, g2, g3⟩ := add_inv hm w2 w h.ok h.nd h2.ok
  have e0 : ([some (.b (.ins C0 (fsS q w c))), some (.b (.ins C0 (fsS q w2 c2))), some (.o (.dic (toK w))), none, none] : Env') = envA C0 (fsS q w c) (fsS q w2 c2) (w, none, none) := rfl
  rw [e0, add_loop hm w2 (w, none, none) h.ok h.nd h2.ok hl (fun _ z => nomatch z) (fun _ z => nomatch z) ?_]
  · have e1 := step_fst (q := q) w2 (w, none, none)
    simp [envA, e1, lk_m, lk_c, r_constant, f_modI hp.1, r_init hm g1 g2 (by omega) hc.1 hc.2, sumD]
  · intro s p N hs n1 n2
    have hsz : s.1.length < sizeLine := by rw [sizeLine_eq]; omega
    simp [envA, np_of n1, np_of n2, stepA, addW]
    rw [getD_W s.1 p.1 rfl (fun i => rfl)]
    simp [lk_m, f_modI hp.1, putD_toK, len_toK, hsz]
theorem r_sub (hm : Md q) (h : Can q w) (h2 : Can q w2) (hl : w.length + w2.length < 64) (c0 : 0 ≤ c2) (c1 : c2 < q) : t_Sum__sub C0 XQ [.ins C0 (fsS q w c), .ins C0 (fsS q w2 c2)] QR = QR (.o (.ins C0 (fsS q (nrm ((mulW q (-1) w2).foldl (addW q) w)) ((c + -c2) % q)))) := by
  have h3 := h2.mul hm (-1)
  have l3 := len_mulW q (-1) w2
  simp [t_Sum__sub, u_Sum__sub, r_want_alike, lk_no (m := "want_alike") q w c (by decide +kernel) (by decide +kernel) (by decide +kernel), r_mul hm h2 c0 c1, r_add hm h h3 (by omega)]
end
end K11

set_option Elab.async false
set_option linter.all false
set_option maxRecDepth 100000
set_option maxHeartbeats 4000000
namespace K11
open PySem PySem.Spec L2 PyProof.Rows QD QD.Ev
/-- the drawing: two numbers -/
structure Rg where
  a : Int
  b : Int
def rgD (r : Rg) : D := .lst [.int r.a, .int r.b]
structure Rg.Ok (r : Rg) : Prop where
  a0 : 0 ≤ r.a
  b0 : 0 ≤ r.b
  b1 : r.b < 2147483549
def drawN (r : Rg) (m : Int) : Int := if r.a > 0 then r.a % m else (((r.b * 40692 + 27011) % 2147483549) * ((r.b * 40692 + 27011) % 2147483549)) % 2147483477 / 19 % m
def drawR (r : Rg) (m : Int) : Rg := if r.a > 0 then ⟨r.a / m, r.b⟩ else ⟨r.a, (r.b * 40692 + 27011) % 2147483549⟩
theorem draw_lt (r : Rg) {m : Int} (hm : 0 < m) : 0 ≤ drawN r m ∧ drawN r m < m := by
  unfold drawN
  split
  · exact ⟨Int.emod_nonneg _ (by omega), Int.emod_lt_of_pos _ hm⟩
  · exact ⟨Int.emod_nonneg _ (by omega), Int.emod_lt_of_pos _ hm⟩
theorem Rg.Ok.draw {r : Rg} (h : r.Ok) {m : Int} (hm : 0 < m) : (drawR r m).Ok := by
  unfold drawR
  split
  · exact ⟨Int.ediv_nonneg h.a0 (by omega), h.b0, h.b1⟩
  · exact ⟨h.a0, Int.emod_nonneg _ (by decide), Int.emod_lt_of_pos _ (by decide)⟩
theorem divmod_at {i j : Int} (h : 0 < j) (h2 : j < 1073741824) : divmodD [.int i, .int j] = some (.tup [.int (i / j), .int (i % j)]) := if_pos ⟨h, h2⟩
@[simp] theorem f_ixLD {ds : List D} {i : Int} : ixLD (.lst ds) (.int i) = atI ds i := rfl
@[simp] theorem f_ixTD {ds : List D} {i : Int} : ixTD (.tup ds) (.int i) = atI ds i := rfl
theorem r_draw {C : Addr} {XQ : XP} {r : Rg} {m : Int} {QO : D → R → Prop} (h : r.Ok) (h0 : 0 < m) (h1 : m < 1000) : t_law_draw C XQ (rgD r) [.int m] QO = QO (rgD (drawR r m)) (.s (.int (drawN r m))) := by
  have s1 : small r.b = true := by
    have := h.b0; have := h.b1
    unfold small; rw [Bool.and_eq_true, decide_eq_true_eq, decide_eq_true_eq]; omega
  have hb : 0 ≤ (r.b * 40692 + 27011) % 2147483549 ∧ (r.b * 40692 + 27011) % 2147483549 < 2147483549 := ⟨Int.emod_nonneg _ (by decide), Int.emod_lt_of_pos _ (by decide)⟩
  have s2 : small ((r.b * 40692 + 27011) % 2147483549) = true := by
    unfold small; rw [Bool.and_eq_true, decide_eq_true_eq, decide_eq_true_eq]; omega
  by_cases ha : r.a > 0
  · have ha' : (0 : Int) < r.a := ha
    simp [t_law_draw, u_law_draw, rgD, ha', divmod_at h0 (show m < 1073741824 by omega), drawR, drawN]
  · have ha' : ¬ (0 : Int) < r.a := ha
    simp [t_law_draw, u_law_draw, rgD, ha', drawR, drawN, f_mulI (.inl s1), f_mulI (.inl s2), f_modI h0, f_modI (show (0 : Int) < 2147483549 by decide), f_modI (show (0 : Int) < 2147483477 by decide), f_fdivI (show (0 : Int) < 19 by decide) (by decide)]
end K11

set_option Elab.async false
set_option linter.all false
set_option maxRecDepth 100000
set_option maxHeartbeats 4000000
namespace K11
open PySem PySem.Spec L2 PyProof.Rows QD QD.Ev
def absI (i : Int) : Int := if i < 0 then -i else i
def rngOf (cell k : Int) : Rg := ⟨if absI cell - 10 ^ 18 > 0 then absI cell - 10 ^ 18 else 0, (absI cell % 2147483543 + 1) * (2 * k + 5) ^ 3 % 2147483497 + 1⟩
theorem rngOf_ok (cell k : Int) : (rngOf cell k).Ok := by
  have h1 : 0 ≤ (absI cell % 2147483543 + 1) * (2 * k + 5) ^ 3 % 2147483497 := Int.emod_nonneg _ (by decide)
  have h2 : (absI cell % 2147483543 + 1) * (2 * k + 5) ^ 3 % 2147483497 < 2147483497 := Int.emod_lt_of_pos _ (by decide)
  refine ⟨?_, ?_, ?_⟩
  · show 0 ≤ (if absI cell - 10 ^ 18 > 0 then absI cell - 10 ^ 18 else 0)
    split <;> omega
  · show 0 ≤ (absI cell % 2147483543 + 1) * (2 * k + 5) ^ 3 % 2147483497 + 1; omega
  · show (absI cell % 2147483543 + 1) * (2 * k + 5) ^ 3 % 2147483497 + 1 < 2147483549; omega
theorem atI_nat {α : Type} {l : List α} {k : Int} (h0 : 0 ≤ k) (h1 : k < l.length) : ∃ x, atI l k = some x := by
  unfold atI ixN
  rw [if_pos h0, if_pos h1]
  have : k.toNat < l.length := by omega
  exact ⟨l[k.toNat], by simp [this]⟩
theorem powI_eq {i j : Int} (h : 0 ≤ j ∧ j ≤ 1000000 ∧ i.natAbs < 2 ^ 64) : powI (.int i) (.int j) = some (.int (i ^ j.toNat)) := if_pos h
theorem r_rng {C : Addr} {XQ : XP} {ns : List Int} {k : Int} {QR : R → Prop} (h0 : 0 ≤ k) (h1 : k < 3) : ∃ r : Rg, r.Ok ∧ ∀ QR : R → Prop, t_law_rng C XQ [.lst (ns.map .int), .int k] QR = QR (.o (rgD r)) := by
  have hp : powI (.int 10) (.int 18) = some (.int (10 ^ 18)) := powI_eq (by decide)
  have hq : powI (.int (2 * k + 5)) (.int 3) = some (.int ((2 * k + 5) ^ 3)) := powI_eq ⟨by decide, by decide, by omega⟩
  have sm : ∀ c : Int, small (absI c % 2147483543 + 1) = true := fun c => by
    have a := Int.emod_nonneg (absI c) (show (2147483543 : Int) ≠ 0 by decide)
    have b := Int.emod_lt_of_pos (absI c) (show (0 : Int) < 2147483543 by decide)
    unfold small; rw [Bool.and_eq_true, decide_eq_true_eq, decide_eq_true_eq]; omega
  have m1 : mulI (.int 13) (.int k) = some (.int (13 * k)) := f_mulI (.inl (by decide))
  have m2 : mulI (.int 2) (.int k) = some (.int (2 * k)) := f_mulI (.inl (by decide))
  have m3 : ∀ c x : Int, mulI (.int (absI c % 2147483543 + 1)) (.int x) = some (.int ((absI c % 2147483543 + 1) * x)) := fun c x => f_mulI (.inl (sm c))
  have ab : ∀ c : Int, absD [.int c] = some (.int (absI c)) := fun _ => rfl
  have two : ∀ a b : Int, (2 : Nat) ≤ sizeLine := fun _ _ => by rw [sizeLine_eq]; decide
  by_cases hk : k < (ns.length : Int)
  · obtain ⟨x, hx⟩ := atI_nat (l := ns) h0 hk
    have hx' : atI (ns.map D.int) k = some (.int x) := by
      unfold atI at hx ⊢
      rw [List.length_map]
      cases e : ixN ns.length k with
      | none => rw [e] at hx; cases hx
      | some j =>
        rw [e] at hx
        show (ns.map D.int)[j]? = _
        have hx : ns[j]? = some x := hx
        rw [List.getElem?_map, hx]; rfl
    refine ⟨rngOf x k, rngOf_ok x k, fun QR => ?_⟩
    simp [-f_absD, t_law_rng, u_law_rng, hk, hx', m1, m2, m3, ab, hp, hq, f_modI (show (0 : Int) < 2147483543 by decide), f_modI (show (0 : Int) < 2147483497 by decide), rgD, rngOf, sizeLine_eq]
  · refine ⟨rngOf (13 * k + 7) k, rngOf_ok _ k, fun QR => ?_⟩
    simp [-f_absD, t_law_rng, u_law_rng, hk, m1, m2, m3, ab, hp, hq, f_modI (show (0 : Int) < 2147483543 by decide), f_modI (show (0 : Int) < 2147483497 by decide), rgD, rngOf, sizeLine_eq]
end K11

set_option Elab.async false
set_option linter.all false
set_option maxRecDepth 100000
set_option maxHeartbeats 4000000
namespace K11
open PySem PySem.Spec L2 PyProof.Rows QD QD.Ev
def valW (w u : W) : Int := (w.map fun p => p.2 * getW u p.1).sum
section
variable {C0 : Addr} {XQ : XP} {q c : Int} {w u : W} {QR : R → Prop}
def envT (C0 : Addr) (fs : List (Str × D)) (u : W) (s : Int × Option C × Option C) : Env' := [some (.b (.ins C0 fs)), some (.b (.dic (toK u))), some (.g (.int s.1)), s.2.1, s.2.2]
def stepT (u : W) (s : Int × Option C × Option C) (p : Str × Int) : Int × Option C × Option C := (s.1 + p.2 * getW u p.1, some (.g (.str p.1)), some (.g (.int p.2)))
theorem at_loop {wt : UTg} {us : US} {DD : ED} {fs : List (Str × D)} {u : W} : ∀ (l : W) (s : Int × Option C × Option C), (∀ x, s.2.1 ≠ some (.p x)) → (∀ x, s.2.2 ≠ some (.p x)) →
    (∀ (s : Int × Option C × Option C), ∀ p ∈ l, ∀ N, (∀ x, s.2.1 ≠ some (.p x)) → (∀ x, s.2.2 ≠ some (.p x)) → wt (envT C0 fs u s) (.g (.tup [.str p.1, .int p.2])) (kLp us XQ N DD) = N (envT C0 fs u (stepT u s p))) →
      uLoop wt us XQ DD (itemsKA (toK l)) (envT C0 fs u s) = DD.nx (envT C0 fs u (l.foldl (stepT u) s))
  | [], s, _, _, _ => rfl
  | p :: l, s, n1, n2, step => by
    have e := at_loop l (stepT u s p) (fun _ z => nomatch z) (fun _ z => nomatch z) fun s r hr => step s r (by simp [hr])
    show uLoop wt us XQ DD (.g (.tup [.str p.1, .int p.2]) :: itemsKA (toK l)) _ = _
    rw [e_loop1, step s p (by simp) _ n1 n2, e]
    rfl
theorem at_sum (u : W) : ∀ (l : W) (s : Int × Option C × Option C), (l.foldl (stepT u) s).1 = s.1 + valW l u
  | [], s => by simp [valW]
  | p :: l, s => by
    show (l.foldl (stepT u) (stepT u s p)).1 = _
    rw [at_sum u l]
    show s.1 + p.2 * getW u p.1 + valW l u = s.1 + ((p.2 * getW u p.1) + valW l u)
    omega
theorem knin_toK {n : Str} (h : n ∈ names u) : kninD (.str n) (.dic (toK u)) = some (.bl false) := by
  show some (D.bl (!(valD (toK u) (.inr n)).isSome)) = _
  rw [valD_toK]
  cases e : getO u n with
  | some i => rfl
  | none =>
    exfalso
    unfold getO at e
    obtain ⟨p, hp, rfl⟩ := List.mem_map.mp h
    cases z : u.find? fun r => decide (r.1 = p.1) with
    | none => exact absurd (List.find?_eq_none.mp z p hp) (by simp)
    | some r => rw [z] at e; cases e
theorem r_at (hm : Md q) (h : Can q w) (hu : Can q u) (hs : ∀ n ∈ names w, n ∈ names u) : t_Sum_at C0 XQ [.ins C0 (fsS q w c), .dic (toK u)] QR = QR (.s (.int ((c + valW w u) % q))) := by
  have hp := hm.pos
  have hlu := hu.ln
  simp [t_Sum_at, u_Sum_at, lk_w, lk_m, lk_c, r_is_world hu.ok (by omega)]
  have e0 : ([some (.b (.ins C0 (fsS q w c))), some (.b (.dic (toK u))), some (.g (.int c)), none, none] : Env') = envT C0 (fsS q w c) u (c, none, none) := rfl
  rw [e0, at_loop w (c, none, none) (fun _ z => nomatch z) (fun _ z => nomatch z) ?_]
  · have e1 := at_sum u w (c, none, none)
    simp [envT, e1, lk_m, f_modI hp.1]
    exact fun _ => all_flat' w
  · intro s p hpw N n1 n2
    obtain ⟨_, z1, z2⟩ := h.ok p hpw
    have hn := hs p.1 (List.mem_map.mpr ⟨p, hpw, rfl⟩)
    simp [envT, stepT, np_of n1, np_of n2, knin_toK hn, ixK_toK hu.nd hn, f_mulS hm z1 z2]
end
end K11

set_option Elab.async false
set_option linter.all false
set_option maxRecDepth 100000
set_option maxHeartbeats 4000000
namespace K11
open PySem PySem.Spec L2 PyProof.Rows QD QD.Ev
def npS (x : Option C) : Prop := ∀ z, x ≠ some (.p z)
theorem npS_npC {x : Option C} (h : npS x) : npC (some x) = true := np_of h
/-- the slots of _law_some_names -/
def envN (r : Rg) (m : Int) (fd : List Str) (x3 x4 x5 x6 : Option C) : Env' := [some (.p (rgD r)), some (.b (.int m)), some (.o (.lst (fd.map .str))), x3, x4, x5, x6]
theorem atI_lt {α : Type} {l : List α} {k : Int} (h0 : 0 ≤ k) (h1 : k < l.length) : ∃ x ∈ l, atI l k = some x := by
  unfold atI ixN
  rw [if_pos h0, if_pos h1]
  have : k.toNat < l.length := by omega
  exact ⟨l[k.toNat], List.getElem_mem _, by simp [this]⟩
theorem ixS_lt {z : Str} {k : Int} (hz : z.length ≤ sizeLine) (h0 : 0 ≤ k) (h1 : k < z.length) : ∃ c ∈ z.cps.toList, ixSD (.str z) (.int k) = some (.str ⟨#[c]⟩) := by
  obtain ⟨c, hc, e⟩ := atI_lt (l := z.cps.toList) h0 (by simpa [Str.length] using h1)
  refine ⟨c, hc, ?_⟩
  show (if z.length ≤ sizeLine then _ else none) = _
  rw [if_pos hz, e]; rfl
theorem r_signs {C0 : Addr} {XQ : XP} {m : Int} {fd : List Str} {x3 x4 x5 : Option C} {n : Nat} (r : Rg) (hr : r.Ok) (hn : n ≤ 1000) :
    ∃ (r' : Rg) (cs : List Nat), r'.Ok ∧ cs.length = n ∧ (∀ c ∈ cs, c ∈ signsS.cps.toList) ∧ ∀ Q, uCompI (gN 6) uYes (uG (uS2 ixSD (uC (.str "abcdefghijklmnopqrstuvwxyz0123456789")) (uO (uCallO 0 [.b] (t_law_draw C0) [] (uCons (uVar 0) (uCons (uC (.int 36)) uNil)))))) [6] XQ (rangeA 0 n) [] (envN r m fd x3 x4 x5 none) Q =
      Q (envN r' m fd x3 x4 x5 none) (cs.map fun c => .str ⟨#[c]⟩) := by
  obtain ⟨L', ds, ⟨r', hr', rfl⟩, hl, hg, e⟩ := comp_ex (wt := gN 6) (ut := uYes) (ue := uG (uS2 ixSD (uC (.str "abcdefghijklmnopqrstuvwxyz0123456789")) (uO (uCallO 0 [.b] (t_law_draw C0) [] (uCons (uVar 0) (uCons (uC (.int 36)) uNil)))))) (vs := [6]) (XQ := XQ)
    (fun _ L => ∃ r : Rg, r.Ok ∧ L = envN r m fd x3 x4 x5 none) (fun d => ∃ c ∈ signsS.cps.toList, d = .str ⟨#[c]⟩) (rangeA 0 n) [] 0 (envN r m fd x3 x4 x5 none) (by
      rintro j L a ⟨r, hr, e⟩ ha
      obtain ⟨i, _, rfl⟩ := List.mem_map.mp ha
      have hd := draw_lt r (m := 36) (by decide)
      obtain ⟨c, hc, e2⟩ := ixS_lt (z := "abcdefghijklmnopqrstuvwxyz0123456789") (by rw [sizeLine_eq]; decide +kernel) hd.1 (by
        have : (("abcdefghijklmnopqrstuvwxyz0123456789" : Str).length : Int) = 36 := by decide +kernel
        omega)
      refine ⟨envN (drawR r 36) m fd x3 x4 x5 none, .str ⟨#[c]⟩, ⟨_, hr.draw (by decide), rfl⟩, ⟨c, hc, rfl⟩, fun acc Kc => ?_⟩
      subst e
      simp [envN, r_draw hr (show (0 : Int) < 36 by decide) (by decide), e2]) ⟨r, hr, rfl⟩ (by rw [sizeLine_eq]; simp [rangeA]; omega)
  have : ∃ cs : List Nat, ds = cs.map (fun c => D.str ⟨#[c]⟩) ∧ ∀ c ∈ cs, c ∈ signsS.cps.toList := by
      clear e hl
      induction ds with
      | nil => exact ⟨[], rfl, fun _ z => by cases z⟩
      | cons d ds ih =>
        obtain ⟨cs, e, h⟩ := ih fun x hx => hg x (by simp [hx])
        obtain ⟨c, hc, e2⟩ := hg d (by simp)
        exact ⟨c :: cs, by rw [e, e2]; rfl, fun x hx => by rcases List.mem_cons.mp hx with rfl | hx; exact hc; exact h x hx⟩
  obtain ⟨cs, e1, h⟩ := this
  subst e1
  refine ⟨r', cs, hr', by simpa [rangeA] using hl, h, fun Q => ?_⟩
  rw [e]; simp
theorem size_at {i : Int} (h0 : 0 ≤ i) (h1 : i < 4) : ∃ n : Nat, n ≤ 11 ∧ atI [D.int 0, D.int 1, D.int 2, D.int 11] i = some (.int n) := by
  have : i = 0 ∨ i = 1 ∨ i = 2 ∨ i = 3 := by omega
  rcases this with rfl | rfl | rfl | rfl
  · exact ⟨0, by decide, rfl⟩
  · exact ⟨1, by decide, rfl⟩
  · exact ⟨2, by decide, rfl⟩
  · exact ⟨11, by decide, rfl⟩
def oneS (c : Nat) : Str := ⟨#[c]⟩
theorem joinL_one : ∀ cs : List Nat, TL.joinL [] (cs.map fun c => [c]) = cs
  | [] => rfl
  | [c] => rfl
  | c :: d :: cs => by
    have ih := joinL_one (d :: cs)
    simp only [List.map_cons] at ih ⊢
    show [c] ++ ([] ++ TL.joinL [] ([d] :: cs.map fun c => [c])) = _
    rw [ih]; rfl
/-- the rest of a drawn name -/
def restS (cs : List Nat) : Str := Txt.join "" (cs.map oneS)
theorem restS_l (cs : List Nat) : (restS cs).cps.toList = cs := by
  have h := TL.tl_join "" (cs.map oneS)
  rw [← TL.join_eq] at h
  have e : (cs.map oneS).map TL.tl = cs.map fun c => [c] := by rw [List.map_map]; rfl
  rw [e] at h
  have e2 : TL.tl ("" : Str) = [] := by decide +kernel
  rw [e2, joinL_one] at h
  exact h
theorem restS_len (cs : List Nat) : (restS cs).length = cs.length := by
  have h := congrArg List.length (restS_l cs)
  rw [Array.length_toList] at h
  exact h
theorem join_one {cs : List Nat} (h : cs.length ≤ 1000) : joinD (.str "") (.lst (cs.map fun c => .str ⟨#[c]⟩)) = some (.str (restS cs)) := by
  have e : strsD (cs.map fun c => D.str ⟨#[c]⟩) = some (cs.map oneS) := by
    have := Ev.strs_map (cs.map oneS)
    rw [List.map_map] at this
    exact this
  have s : ∀ cs : List Nat, ((cs.map oneS).map (·.length)).sum = cs.length := fun cs => by
    induction cs with
    | nil => rfl
    | cons c cs ih => rw [List.map_cons, List.map_cons, List.sum_cons, ih, List.length_cons]; show 1 + _ = _; omega
  have z : ("" : Str).length = 0 := by decide +kernel
  show (strsD (cs.map fun c => D.str ⟨#[c]⟩)).bind _ = _
  rw [e]
  show (if ((cs.map oneS).map (·.length)).sum + (cs.map oneS).length * ("" : Str).length ≤ 16777216 then _ else none) = _
  rw [s, z, if_pos (by omega)]; rfl
theorem add_one {c : Nat} {cs : List Nat} (h : cs.length ≤ 1000) : addI (.str ⟨#[c]⟩) (.str (restS cs)) = some (.str (oneS c ++ restS cs)) := by
  show (if (oneS c).length + (restS cs).length ≤ sizeLine then some (D.str (oneS c ++ restS cs)) else none) = _
  rw [if_pos]
  rw [restS_len, sizeLine_eq]
  show 1 + _ ≤ _
  omega
theorem nin_strs {x : Str} (fd : List Str) : ninD (.str x) (.lst (fd.map .str)) = some (.bl (!decide (x ∈ fd))) := by
  have h1 : (fd.map D.str).all flat4 = true := by simp [flat4]
  have h2 : inQ (.str x) (fd.map .str) = decide (x ∈ fd) := by
    unfold inQ
    rw [List.any_map]
    induction fd with
    | nil => rfl
    | cons y fd ih =>
      rw [List.any_cons, ih (by simp [flat4])]
      show (y == x || decide (x ∈ fd)) = decide (x ∈ y :: fd)
      by_cases e : y = x
      · simp [e]
      · have e' : ¬ x = y := fun z => e z.symm
        simp [e, e']
  show ((if flat4 (.str x) && (fd.map D.str).all flat4 then some (inQ (.str x) (fd.map .str)) else none).map fun k => D.bl (!k)) = _
  rw [h1, h2]; rfl
theorem name_of {c : Nat} {cs : List Nat} (h1 : c ∈ lettersS.cps.toList) (h2 : ∀ d ∈ cs, d ∈ signsS.cps.toList) (hl : cs.length ≤ 11) : Nm (oneS c ++ restS cs) := by
  have e : (oneS c ++ restS cs).cps.toList = c :: cs := by
    show (#[c] ++ (restS cs).cps).toList = _
    rw [Array.toList_append, restS_l]; rfl
  have l : (oneS c ++ restS cs).length = cs.length + 1 := by
    have := congrArg List.length e
    rw [Array.length_toList] at this
    exact this
  have sub : ∀ d ∈ lettersS.cps.toList, d ∈ signsS.cps.toList := by decide +kernel
  refine ⟨by omega, by omega, ⟨c, by rw [e]; exact atI_0, h1⟩, fun d hd => ?_⟩
  rw [e] at hd
  rcases List.mem_cons.mp hd with rfl | hd
  · exact sub _ h1
  · exact h2 d hd
/-- the loop's body -/
def usN (C0 : Addr) : US := (uSeq (uSet 4 (uE2 ixLD (uO (uLst (uCons (uC (.int 0)) (uCons (uC (.int 1)) (uCons (uC (.int 2)) (uCons (uC (.int 11)) uNil)))))) (uO (uCallO 0 [.b] (t_law_draw C0) [] (uCons (uVar 0) (uCons (uC (.int 4)) uNil)))))) (uSeq (uSet 5 (uS2 ixSD (uC (.str "abcdefghijklmnopqrstuvwxyz")) (uO (uCallO 0 [.b] (t_law_draw C0) [] (uCons (uVar 0) (uCons (uC (.int 26)) uNil))))))
      (uSeq (uSet 5 (uS2 addI (uVar 5) (uO (uJoin (uC (.str "")) (uO (uComp (uRng1 (uCons (uVar 4) uNil)) (gN 6) uYes (uG (uS2 ixSD (uC (.str "abcdefghijklmnopqrstuvwxyz0123456789")) (uO (uCallO 0 [.b] (t_law_draw C0) [] (uCons (uVar 0) (uCons (uC (.int 36)) uNil)))))) [6]))))))
      (uIfS (uB (uS2 ninD (uVar 5) (uVar 2))) (uApp 2 (uG (uVar 5))) uNext))))
/-- one turn -/
theorem r_one_name {C0 : Addr} {XQ : XP} {m : Int} {fd : List Str} {x3 x4 x5 : Option C} (r : Rg) (hr : r.Ok) (h3 : npS x3) (h4 : npS x4) (h5 : npS x5) (i : Int) (hl : fd.length < 1000) :
    ∃ (r' : Rg) (n : Int) (x : Str), r'.Ok ∧ Nm x ∧ ∀ (us : US) (DD : ED) N, us = usN C0 → gN 3 (envN r m fd x3 x4 x5 none) (.g (.int i)) (kLp us XQ N DD) = N (envN r' m (if x ∈ fd then fd else fd ++ [x]) (some (.g (.int i))) (some (.g (.int n))) (some (.g (.str x))) none) := by
  have d1 := draw_lt r (m := 4) (by decide)
  obtain ⟨n, hn, en⟩ := size_at d1.1 d1.2
  have r1 := hr.draw (m := 4) (by decide)
  have d2 := draw_lt (drawR r 4) (m := 26) (by decide)
  have r2 := r1.draw (m := 26) (by decide)
  obtain ⟨c0, hc0, ec0⟩ := ixS_lt (z := "abcdefghijklmnopqrstuvwxyz") (by rw [sizeLine_eq]; decide +kernel) d2.1 (by
    have : (("abcdefghijklmnopqrstuvwxyz" : Str).length : Int) = 26 := by decide +kernel
    omega)
  obtain ⟨r3, cs, hr3, lcs, hcs, ecs⟩ := r_signs (C0 := C0) (XQ := XQ) (m := m) (fd := fd) (x3 := some (.g (.int i))) (x4 := some (.g (.int n))) (x5 := some (.g (.str (oneS c0)))) (n := n) (drawR (drawR r 4) 26) r2 (by omega)
  refine ⟨r3, n, oneS c0 ++ restS cs, hr3, name_of hc0 hcs (by omega), fun us DD N hus => ?_⟩
  subst hus
  simp [usN, envN, npS_npC h3, npS_npC h4, npS_npC h5, r_draw hr (show (0 : Int) < 4 by decide) (by decide), r_draw r1 (show (0 : Int) < 26 by decide) (by decide), en, ec0, sizeLine_eq]
  have hcl : cs.length ≤ 1000 := by omega
  have hn1 : (n : Int) < 4611686018427387904 := by omega
  have hf1 : fd.length < 16777216 := by omega
  simp only [envN, oneS] at ecs
  rw [ecs]
  by_cases hx : oneS c0 ++ restS cs ∈ fd
  · simp [join_one hcl, add_one hcl, nin_strs, hx, hn1]
  · simp [join_one hcl, add_one hcl, nin_strs, hx, hn1, hf1, sizeLine_eq]
theorem npS_g {d : D} : npS (some (.g d)) := fun _ z => by cases z
theorem npS_none : npS none := fun _ z => by cases z
theorem r_some_names {C0 : Addr} {XQ : XP} {m : Int} {r : Rg} (hr : r.Ok) (h0 : 0 ≤ m) (h1 : m ≤ 6) :
    ∃ (r' : Rg) (fd : List Str), r'.Ok ∧ (∀ x ∈ fd, Nm x) ∧ fd.Nodup ∧ fd.length ≤ 6 ∧ ∀ QO, t_law_some_names C0 XQ (rgD r) [.int m] QO = QO (rgD r') (.o (.lst (fd.map .str))) := by
  obtain ⟨L', ⟨r', fd, x3, x4, x5, k1, k2, k3, k4, _, _, _, rfl⟩, e⟩ := loop_exN (wt := gN 3) (us := usN C0) (XQ := XQ) 6
    (fun k L => ∃ (r : Rg) (fd : List Str) (x3 x4 x5 : Option C), r.Ok ∧ (∀ x ∈ fd, Nm x) ∧ fd.Nodup ∧ fd.length ≤ k ∧ npS x3 ∧ npS x4 ∧ npS x5 ∧ L = envN r m fd x3 x4 x5 none) (rangeA 0 m.toNat) 0 (envN r m [] none none none none) (by simp [rangeA]; omega) (by
      rintro j L a hj6 ⟨r, fd, x3, x4, x5, k1, k2, k3, k4, n3, n4, n5, rfl⟩ ha
      obtain ⟨i, hi, rfl⟩ := List.mem_map.mp ha
      have hl : fd.length < 1000 := by omega
      · obtain ⟨r1, n, x, g1, g2, g3⟩ := r_one_name (C0 := C0) (XQ := XQ) (m := m) (fd := fd) r k1 n3 n4 n5 (0 + (i : Nat)) hl
        refine ⟨_, ⟨r1, if x ∈ fd then fd else fd ++ [x], _, _, _, g1, ?_, ?_, ?_, npS_g, npS_g, npS_g, rfl⟩, fun N DD => g3 _ DD N rfl⟩
        · intro y hy
          split at hy
          · exact k2 y hy
          · rcases List.mem_append.mp hy with z | z
            · exact k2 y z
            · simp at z; rw [z]; exact g2
        · split
          · exact k3
          · rename_i hx
            rw [List.nodup_append]
            exact ⟨k3, by simp, fun a ha b hb e => hx (by simp at hb; rw [← hb, ← e]; exact ha)⟩
        · split
          · omega
          · simp; omega) ⟨r, [], none, none, none, hr, (fun _ z => by cases z), .nil, (by simp), npS_none, npS_none, npS_none, rfl⟩
  have hm6 : 0 + (rangeA 0 m.toNat).length ≤ 6 := by simp [rangeA]; omega
  refine ⟨r', fd, k1, k2, k3, by omega, fun QO => ?_⟩
  simp only [usN, envN] at e
  have b1 : m < 4611686018427387904 := by omega
  have b2 : (-4611686018427387904 : Int) ≤ m := by omega
  simp [t_law_some_names, u_law_some_names, b1, b2]
  have e2 := e
  simp only [List.map_nil] at e2
  rw [e2]
  simp
end K11

set_option Elab.async false
set_option linter.all false
set_option maxRecDepth 100000
set_option maxHeartbeats 4000000
namespace K11
open PySem PySem.Spec L2 PyProof.Rows QD QD.Ev
def valF (u : W) (a : A) : D := match a with
  | .g (.tup [.str n, .int v]) => .int (v * getW u n)
  | _ => .non
theorem val_items (u : W) : ∀ w : W, (itemsKA (toK w)).map (valF u) = (w.map fun p => p.2 * getW u p.1).map .int
  | [] => rfl
  | p :: w => by
    have ih := val_items u w
    rw [items_toK] at ih ⊢
    simp only [List.map_cons] at ih ⊢
    rw [ih]; rfl
def modD (w : W) (c : Int) : D := .tup [.dic (toK w), .int c]
theorem ints_map : ∀ xs : List Int, intsD (xs.map .int) = some xs
  | [] => rfl
  | x :: xs => by
    have ih := ints_map xs
    unfold intsD at ih ⊢
    rw [List.map_cons, List.mapM_cons, ih]; rfl
theorem r_law_value {C0 : Addr} {XQ : XP} {w u : W} {c q : Int} {QR : R → Prop} (hm : Md q) (h : Can q w) (hu : (names u).Nodup) (hs : ∀ n ∈ names w, n ∈ names u) : t_law_value C0 XQ [modD w c, .dic (toK u), .int q] QR = QR (.s (.int ((valW w u + c) % q))) := by
  have hp := hm.pos
  simp [t_law_value, u_law_value, modD]
  rw [comp_map (valF u) (itemsKA (toK w)) [] ?_ ?_]
  · rw [val_items]
    have e : QD.sumD [.lst ((w.map fun p => p.2 * getW u p.1).map .int)] = some (.int (valW w u)) := by
      show (intsD ((w.map fun p => p.2 * getW u p.1).map .int)).map _ = _
      rw [ints_map]; rfl
    simp at e
    simp [e, f_modI hp.1]
    exact fun _ => all_flat' w
  · intro a ha acc Kc
    rw [items_toK] at ha
    obtain ⟨p, hp', rfl⟩ := List.mem_map.mp ha
    obtain ⟨_, z1, z2⟩ := h.ok p hp'
    have hn := hs p.1 (List.mem_map.mpr ⟨p, hp', rfl⟩)
    simp [ixK_toK hu hn, f_mulS hm z1 z2, valF]
  · rw [items_toK, sizeLine_eq]
    have := h.ln
    simp; omega
end K11

set_option Elab.async false
set_option linter.all false
set_option maxRecDepth 100000
set_option maxHeartbeats 4000000
namespace K11
open PySem PySem.Spec L2 PyProof.Rows QD QD.Ev
theorem mem_getW {a : W} (hn : (names a).Nodup) (hz : ∀ p ∈ a, p.2 ≠ 0) (p : Str × Int) : p ∈ a ↔ p.2 ≠ 0 ∧ getW a p.1 = p.2 := by
  constructor
  · intro h
    exact ⟨hz p h, by unfold getW; rw [getO_mem hn h]; rfl⟩
  · rintro ⟨h1, h2⟩
    unfold getW at h2
    cases e : getO a p.1 with
    | none => rw [e] at h2; exact absurd h2.symm h1
    | some i =>
      rw [e] at h2
      have h2 : i = p.2 := h2
      have := getO_some e
      rw [h2] at this; exact this
theorem nodup_of_names {a : W} (h : (names a).Nodup) : a.Nodup := by
  unfold names at h
  exact (List.pairwise_map.mp h).imp fun {x y} z e => z (by rw [e])
/-- two canonical lists with the same numbers are the same -/
theorem canon_ext {a b : W} (ha : (names a).Nodup) (hb : (names b).Nodup) (za : ∀ p ∈ a, p.2 ≠ 0) (zb : ∀ p ∈ b, p.2 ≠ 0) (sa : a.Pairwise fun p q => leS p.1 q.1 = true) (sb : b.Pairwise fun p q => leS p.1 q.1 = true) (h : ∀ n, getW a n = getW b n) : a = b := by
  have hp : a.Perm b := (List.perm_ext_iff_of_nodup (nodup_of_names ha) (nodup_of_names hb)).mpr fun p => by
    rw [mem_getW ha za, mem_getW hb zb, h]
  exact (sortW_uniq hb hp sa).trans (sortW_uniq hb (List.Perm.refl b) sb).symm
end K11

set_option Elab.async false
set_option linter.all false
set_option maxRecDepth 100000
set_option maxHeartbeats 4000000
namespace K11
open PySem PySem.Spec L2 PyProof.Rows QD QD.Ev
theorem getO_put (w : W) (n m : Str) (i : Int) : getO (putW w n i) m = if m = n then some i else getO w m := by
  unfold putW
  by_cases h : n ∈ names w
  · rw [if_pos h]
    induction w with
    | nil => simp [names] at h
    | cons p w ih =>
      unfold getO at ih ⊢
      rw [List.map_cons, List.find?_cons, List.find?_cons]
      by_cases e : p.1 = n
      · rw [if_pos e]
        by_cases z : m = n
        · subst z; simp [e]
        · have z' : ¬ n = m := fun y => z y.symm
          rw [if_neg z]
          have e2 : ¬ p.1 = m := fun y => z (by rw [← y, e])
          simp only [z', e2, decide_false]
          by_cases hw : n ∈ names w
          · have := ih hw
            rw [if_neg z] at this
            exact this
          · have : (w.map fun p => if p.1 = n then (p.1, i) else p) = w := by
              conv => rhs; rw [← List.map_id w]
              refine List.map_congr_left fun q hq => ?_
              rw [if_neg fun y => hw (List.mem_map.mpr ⟨q, hq, y⟩)]; rfl
            rw [this]
      · rw [if_neg e]
        by_cases z : p.1 = m
        · have e3 : ¬ m = n := fun y => e (by rw [z, y])
          simp [z, e3]
        · simp only [z, decide_false]
          have hw : n ∈ names w := by
            rcases List.mem_cons.mp h with y | y
            · exact absurd y.symm e
            · exact y
          exact ih hw
  · rw [if_neg h]
    unfold getO
    rw [List.find?_append]
    by_cases z : m = n
    · subst z
      rw [List.find?_eq_none.mpr fun q hq y => h (List.mem_map.mpr ⟨q, hq, of_decide_eq_true y⟩)]
      simp
    · rw [if_neg z]
      have z' : ¬ n = m := fun y => z y.symm
      simp [z']
theorem getW_put (w : W) (n m : Str) (i : Int) : getW (putW w n i) m = if m = n then i else getW w m := by
  unfold getW; rw [getO_put]; split <;> rfl
end K11

set_option Elab.async false
set_option linter.all false
set_option maxRecDepth 100000
set_option maxHeartbeats 4000000
namespace K11
open PySem PySem.Spec L2 PyProof.Rows QD QD.Ev
/-- the numbers that are not 0 -/
def nz (w : W) : W := w.filter fun p => p.2 ≠ 0
def envD (r : Rg) (fd : List Str) (q : Int) (h : W) (x4 x5 x6 : Option C) : Env' := [some (.p (rgD r)), some (.b (.lst (fd.map .str))), some (.b (.int q)), some (.o (.dic (toK h))), x4, x5, x6]
def usD (C0 : Addr) : US := (uIfS (uB (uS2 gtI (uO (uCallO 0 [.b] (t_law_draw C0) [] (uCons (uVar 0) (uCons (uC (.int 4)) uNil)))) (uC (.int 0)))) (uPut 3 (uG (uCallO 0 [.b] (t_law_draw C0) [] (uCons (uVar 0) (uCons (uVar 2) uNil)))) (uVar 4)) uNext)
theorem r_drawn_one {C0 : Addr} {XQ : XP} {fd : List Str} {q : Int} {h : W} {x4 x5 x6 : Option C} (hm : Md q) (r : Rg) (hr : r.Ok) (n4 : npS x4) (n : Str) (hl : h.length < 1000) :
    ∃ (r' : Rg) (h' : W), r'.Ok ∧ (h' = h ∨ ∃ i, 0 ≤ i ∧ i < q ∧ h' = putW h n i) ∧ ∀ (us : US) (DD : ED) N, us = usD C0 → gN 4 (envD r fd q h x4 x5 x6) (.g (.str n)) (kLp us XQ N DD) = N (envD r' fd q h' (some (.g (.str n))) x5 x6) := by
  have hq := hm.pos
  have r1 := hr.draw (m := 4) (by decide)
  have d2 := draw_lt (drawR r 4) hq.1
  have hsz : h.length < sizeLine := by rw [sizeLine_eq]; omega
  by_cases z : 0 < drawN r 4
  · refine ⟨drawR (drawR r 4) q, putW h n (drawN (drawR r 4) q), r1.draw hq.1, .inr ⟨_, d2.1, d2.2, rfl⟩, fun us DD N e => ?_⟩
    subst e
    simp [usD, envD, npS_npC n4, r_draw hr (show (0 : Int) < 4 by decide) (by decide), z, r_draw r1 hq.1 (show q < 1000 by omega), putD_toK, len_toK, hsz]
  · refine ⟨drawR r 4, h, r1, .inl rfl, fun us DD N e => ?_⟩
    subst e
    simp [usD, envD, npS_npC n4, r_draw hr (show (0 : Int) < 4 by decide) (by decide), z]
def keptF (a : A) : Option D := match a with
  | .g (.tup [.str n, .int v]) => if v ≠ 0 then some (.tup [.str n, .int v]) else none
  | _ => none
theorem kept_items : ∀ w : W, (itemsKA (toK w)).filterMap keptF = (nz w).map fun p => .tup [.str p.1, .int p.2]
  | [] => rfl
  | p :: w => by
    have ih := kept_items w
    rw [items_toK] at ih ⊢
    rw [List.map_cons, List.filterMap_cons, ih]
    unfold nz
    by_cases z : p.2 = 0 <;> simp [keptF, z]
theorem pairs_W : ∀ w : W, (w.map fun p => D.tup [.str p.1, .int p.2]).mapM pairD = some (toK w)
  | [] => rfl
  | p :: w => by
    have ih := pairs_W w
    rw [List.map_cons, List.mapM_cons, ih]; rfl
theorem dict_pairs {w : W} (hn : (names w).Nodup) : dictD [.lst (w.map fun p => D.tup [.str p.1, .int p.2])] = some (.dic (toK w)) := by
  show ((w.map fun p => D.tup [.str p.1, .int p.2]).mapM pairD).map _ = _
  rw [pairs_W]
  show some (D.dic (mergeD [] (toK w))) = _
  rw [mergeD_new (nodup_keys hn) (by simp)]; simp
/-- a drawn model with what is passed -/
structure Dr (q : Int) (fd : List Str) (h : W) : Prop where
  can : Wok q h
  nd : (names h).Nodup
  sub : ∀ n ∈ names h, n ∈ fd
  ln : h.length ≤ fd.length
theorem np_gS {x : Option C} (h : x = none ∨ ∃ d, x = some (.g d)) : npS x := by rcases h with rfl | ⟨d, rfl⟩; exact npS_none; exact npS_g
theorem r_drawn_loop {C0 : Addr} {XQ : XP} {fd : List Str} {q : Int} (hm : Md q) (hf : ∀ x ∈ fd, Nm x) (hl : fd.length ≤ 100) {r : Rg} (hr : r.Ok) :
    ∃ (r' : Rg) (h : W) (x4 : Option C), r'.Ok ∧ (x4 = none ∨ ∃ d, x4 = some (.g d)) ∧ Dr q fd h ∧ ∀ DD, uLoop (gN 4) (usD C0) XQ DD ((fd.map .str).map .g) (envD r fd q [] none none none) = DD.nx (envD r' fd q h x4 none none) := by
  obtain ⟨L', ⟨r', h, x4, k1, k2, k3, k4, k5, k6, rfl⟩, e⟩ := loop_exN (wt := gN 4) (us := usD C0) (XQ := XQ) fd.length
    (fun k L => ∃ (r : Rg) (h : W) (x4 : Option C), r.Ok ∧ (x4 = none ∨ ∃ d, x4 = some (.g d)) ∧ Wok q h ∧ (names h).Nodup ∧ (∀ n ∈ names h, n ∈ fd) ∧ h.length ≤ k ∧ L = envD r fd q h x4 none none) ((fd.map .str).map .g) 0 (envD r fd q [] none none none) (by simp) (by
      rintro j L a hj ⟨r, h, x4, k1, k2, k3, k4, k5, k6, rfl⟩ ha
      obtain ⟨d, hd, rfl⟩ := List.mem_map.mp ha
      obtain ⟨n, hn, rfl⟩ := List.mem_map.mp hd
      obtain ⟨r1, h1, g1, g2, g3⟩ := r_drawn_one (C0 := C0) (XQ := XQ) (fd := fd) (x5 := none) (x6 := none) hm r k1 (np_gS k2) n (show h.length < 1000 by omega)
      refine ⟨_, ⟨r1, h1, some (.g (.str n)), g1, .inr ⟨_, rfl⟩, ?_, ?_, ?_, ?_, rfl⟩, fun N DD => g3 _ DD N rfl⟩
      · rcases g2 with rfl | ⟨i, i0, i1, rfl⟩
        · exact k3
        · exact k3.put (hf n hn) i0 i1
      · rcases g2 with rfl | ⟨i, i0, i1, rfl⟩
        · exact k4
        · exact nodup_putW k4 n i
      · rcases g2 with rfl | ⟨i, i0, i1, rfl⟩
        · exact k5
        · intro m hm'
          rw [names_putW] at hm'
          split at hm'
          · exact k5 m hm'
          · rcases List.mem_append.mp hm' with z | z
            · exact k5 m z
            · simp at z; rw [z]; exact hn
      · rcases g2 with rfl | ⟨i, i0, i1, rfl⟩
        · omega
        · have := len_putW h n i; omega) ⟨r, [], none, hr, .inl rfl, (fun _ z => by cases z), .nil, (fun _ z => by cases z), by simp, rfl⟩
  exact ⟨r', h, x4, k1, k2, ⟨k3, k4, k5, by simpa using k6⟩, e⟩
theorem shallow_toK' (w : W) : D.shallow (.dic (toK w)) = true := flat_toK w
theorem r_drawn {C0 : Addr} {XQ : XP} {fd : List Str} {q : Int} (hm : Md q) (hf : ∀ x ∈ fd, Nm x) (hl : fd.length ≤ 100) {r : Rg} (hr : r.Ok) :
    ∃ (r' : Rg) (h : W) (c : Int), r'.Ok ∧ Dr q fd h ∧ 0 ≤ c ∧ c < q ∧ ∀ QO, t_law_drawn C0 XQ (rgD r) [.lst (fd.map .str), .int q] QO = QO (rgD r') (.s (.tup [modD (nz h) c, .dic (toK h)])) := by
  have hq := hm.pos
  obtain ⟨r1, h, x4, g1, g2, g3, e⟩ := r_drawn_loop (C0 := C0) (XQ := XQ) hm hf hl hr
  have d2 := draw_lt r1 hq.1
  refine ⟨drawR r1 q, h, drawN r1 q, g1.draw hq.1, g3, d2.1, d2.2, fun QO => ?_⟩
  have e0 : ([some (.p (rgD r)), some (.b (.lst (fd.map .str))), some (.b (.int q)), some (.o (.dic [])), none, none, none] : Env') = envD r fd q [] none none none := rfl
  have e1 : itemsA (.b (.lst (fd.map .str))) (fd.map .str) = (fd.map .str).map .g := by
    unfold itemsA; rw [List.map_map, List.map_map]; rfl
  simp [t_law_drawn, u_law_drawn]
  rw [e1, e0]
  have e := e (seqD (uSeq (uSet 5 (uFn dictD (uCons (uO (uLend 3 (uNX (uComp (uItemsP (pVar 3)) (gT (gsCons (gN 4) (gsCons (gN 6) gsNil)) 2) (uB (uS2 neD (uVar 6) (uC (.int 0)))) (uG (uTup (uCons (uVar 4) (uCons (uVar 6) uNil)))) [4, 6])))) uNil)))
    (uRet (uTup (uCons (uGO (uTup (uCons (uGO (uVar 5)) (uCons (uO (uCallO 0 [.b] (t_law_draw C0) [] (uCons (uVar 0) (uCons (uVar 2) uNil)))) uNil)))) (uCons (uGO (uVar 3)) uNil))))) XQ (defO QO))
  simp only [usD] at e
  rw [e]
  clear e
  have hsz : h.length < sizeLine := by rw [sizeLine_eq]; have := g3.ln; omega
  have st : ∀ (x : Option C), (∀ a ∈ itemsKA (toK h), ∀ acc Kc, gT (gsCons (gN 4) (gsCons (gN 6) gsNil)) 2 [some (.p (rgD r1)), some (.b (.lst (fd.map .str))), some (.b (.int q)), some (.b (.dic (toK h))), none, none, none] a (kCI1 (uB (uS2 neD (uVar 6) (uC (.int 0)))) (uG (uTup (uCons (uVar 4) (uCons (uVar 6) uNil)))) [4, 6] noX acc Kc) =
      match keptF a with | some d => (acc.length < sizeLine ∧ Kc (acc ++ [d]) [some (.p (rgD r1)), some (.b (.lst (fd.map .str))), some (.b (.int q)), some (.b (.dic (toK h))), none, none, none]) | none => Kc acc [some (.p (rgD r1)), some (.b (.lst (fd.map .str))), some (.b (.int q)), some (.b (.dic (toK h))), none, none, none]) := fun x a ha acc Kc => by
    rw [items_toK] at ha
    obtain ⟨p, hp, rfl⟩ := List.mem_map.mp ha
    by_cases z : p.2 = 0 <;> simp [keptF, z, sizeLine_eq]
  have sz : ([] : List D).length + (itemsKA (toK h)).length ≤ sizeLine := by rw [items_toK]; simp; omega
  have dp := dict_pairs (names_filter (f := fun p : Str × Int => decide (p.2 ≠ 0)) g3.nd)
  have kp : ∀ (a b c : Option C) (x y : Option C) (L : Env'), bKeep 3 (a :: b :: c :: x :: L) (a :: b :: c :: y :: L) := fun a b c x y L => keep_cons (fun _ z => z) (keep_cons (fun _ z => z) (keep_cons (fun _ z => z) (keep_0 (keep_same) rfl)))
  have dp : dictD [.lst ((nz h).map fun p => D.tup [.str p.1, .int p.2])] = some (.dic (toK (nz h))) := dp
  rcases g2 with rfl | ⟨d, rfl⟩
  · simp [envD, shallow_toK']
    rw [comp_filter keptF (itemsKA (toK h)) [] (st none) sz, kept_items]
    simp [sizeLine_eq, kp, dp, r_draw g1 hq.1 (show q < 1000 by omega), modD]
    exact fun _ => all_flat' h
  · simp [envD, shallow_toK']
    rw [comp_filter keptF (itemsKA (toK h)) [] (st none) sz, kept_items]
    simp [sizeLine_eq, kp, dp, r_draw g1 hq.1 (show q < 1000 by omega), modD]
    exact fun _ => all_flat' h
theorem r_drawnM {C0 : Addr} {XQ : XP} {fd : List Str} {q : Int} (hm : Md q) (hf : ∀ x ∈ fd, Nm x) (hl : fd.length ≤ 100) {r : Rg} (hr : r.Ok) :
    ∃ (r' : Rg) (h : W) (c : Int), r'.Ok ∧ Dr q fd h ∧ 0 ≤ c ∧ c < q ∧ ∀ QO, t_law_drawnM C0 XQ (rgD r) [.lst (fd.map .str), .int q] QO = QO (rgD r') (modD (nz h) c) (.dic (toK h)) := by
  have hq := hm.pos
  obtain ⟨r1, h, x4, g1, g2, g3, e⟩ := r_drawn_loop (C0 := C0) (XQ := noX) hm hf hl hr
  have d2 := draw_lt r1 hq.1
  refine ⟨drawR r1 q, h, drawN r1 q, g1.draw hq.1, g3, d2.1, d2.2, fun QO => ?_⟩
  have e0 : ([some (.p (rgD r)), some (.b (.lst (fd.map .str))), some (.b (.int q)), some (.o (.dic [])), none, none, none] : Env') = envD r fd q [] none none none := rfl
  have e1 : itemsA (.b (.lst (fd.map .str))) (fd.map .str) = (fd.map .str).map .g := by
    unfold itemsA; rw [List.map_map, List.map_map]; rfl
  simp [t_law_drawnM, u_law_drawnM]
  rw [e1, e0]
  have e := e (seqD (uSet 5 (uFn dictD (uCons (uO (uLend 3 (uNX (uComp (uItemsP (pVar 3)) (gT (gsCons (gN 4) (gsCons (gN 6) gsNil)) 2) (uB (uS2 neD (uVar 6) (uC (.int 0)))) (uG (uTup (uCons (uVar 4) (uCons (uVar 6) uNil)))) [4, 6])))) uNil))) noX (defM (v_law_drawnM C0) 3 QO))
  simp only [usD] at e
  rw [e]
  clear e
  have hsz : h.length < sizeLine := by rw [sizeLine_eq]; have := g3.ln; omega
  have st : ∀ (x : Option C), (∀ a ∈ itemsKA (toK h), ∀ acc Kc, gT (gsCons (gN 4) (gsCons (gN 6) gsNil)) 2 [some (.p (rgD r1)), some (.b (.lst (fd.map .str))), some (.b (.int q)), some (.b (.dic (toK h))), none, none, none] a (kCI1 (uB (uS2 neD (uVar 6) (uC (.int 0)))) (uG (uTup (uCons (uVar 4) (uCons (uVar 6) uNil)))) [4, 6] noX acc Kc) =
      match keptF a with | some d => (acc.length < sizeLine ∧ Kc (acc ++ [d]) [some (.p (rgD r1)), some (.b (.lst (fd.map .str))), some (.b (.int q)), some (.b (.dic (toK h))), none, none, none]) | none => Kc acc [some (.p (rgD r1)), some (.b (.lst (fd.map .str))), some (.b (.int q)), some (.b (.dic (toK h))), none, none, none]) := fun x a ha acc Kc => by
    rw [items_toK] at ha
    obtain ⟨p, hp, rfl⟩ := List.mem_map.mp ha
    by_cases z : p.2 = 0 <;> simp [keptF, z, sizeLine_eq]
  have sz : ([] : List D).length + (itemsKA (toK h)).length ≤ sizeLine := by rw [items_toK]; simp; omega
  have dp := dict_pairs (names_filter (f := fun p : Str × Int => decide (p.2 ≠ 0)) g3.nd)
  have kp : ∀ (a b c : Option C) (x y : Option C) (L : Env'), bKeep 3 (a :: b :: c :: x :: L) (a :: b :: c :: y :: L) := fun a b c x y L => keep_cons (fun _ z => z) (keep_cons (fun _ z => z) (keep_cons (fun _ z => z) (keep_0 (keep_same) rfl)))
  have dp : dictD [.lst ((nz h).map fun p => D.tup [.str p.1, .int p.2])] = some (.dic (toK (nz h))) := dp
  rcases g2 with rfl | ⟨d, rfl⟩
  · simp [envD, shallow_toK']
    rw [comp_filter keptF (itemsKA (toK h)) [] (st none) sz, kept_items]
    simp [sizeLine_eq, kp, dp, r_draw g1 hq.1 (show q < 1000 by omega), v_law_drawnM, modD]
    exact fun _ => all_flat' h
  · simp [envD, shallow_toK']
    rw [comp_filter keptF (itemsKA (toK h)) [] (st none) sz, kept_items]
    simp [sizeLine_eq, kp, dp, r_draw g1 hq.1 (show q < 1000 by omega), v_law_drawnM, modD]
    exact fun _ => all_flat' h
end K11

set_option Elab.async false
set_option linter.all false
set_option maxRecDepth 100000
set_option maxHeartbeats 4000000
namespace K11
open PySem PySem.Spec L2 PyProof.Rows QD QD.Ev
/-! numbers under names as functions -/
theorem getO_iff {w : W} (hn : (names w).Nodup) {n : Str} {i : Int} : getO w n = some i ↔ (n, i) ∈ w := ⟨getO_some, fun h => getO_mem hn h⟩
theorem getO_congr {a b : W} (ha : (names a).Nodup) (hb : (names b).Nodup) (h : ∀ p, p ∈ a ↔ p ∈ b) (n : Str) : getO a n = getO b n := by
  cases e : getO a n with
  | some i => exact ((getO_iff hb).mpr ((h _).mp ((getO_iff ha).mp e))).symm
  | none =>
    cases e2 : getO b n with
    | none => rfl
    | some i => rw [(getO_iff ha).mpr ((h _).mpr ((getO_iff hb).mp e2))] at e; cases e
theorem getW_sortW {w : W} (hn : (names w).Nodup) (n : Str) : getW (sortW w) n = getW w n := by
  unfold getW; rw [getO_congr (nodup_sortW hn) hn fun p => (sortW_perm w).mem_iff]
theorem getW_nz {w : W} (hn : (names w).Nodup) (n : Str) : getW (nz w) n = getW w n := by
  have hz : (names (nz w)).Nodup := names_filter hn
  unfold getW
  cases e : getO w n with
  | some i =>
    by_cases z : i = 0
    · cases e2 : getO (nz w) n with
      | none => simp [z]
      | some j =>
        have h1 := getO_some e2
        have h2 := List.mem_filter.mp h1
        rw [(getO_iff hn).mpr h2.1] at e
        cases e; rfl
    · rw [(getO_iff hz).mpr (List.mem_filter.mpr ⟨(getO_iff hn).mp e, by simp [z]⟩)]
  | none =>
    cases e2 : getO (nz w) n with
    | none => rfl
    | some j =>
      have h2 := List.mem_filter.mp (getO_some e2)
      rw [(getO_iff hn).mpr h2.1] at e; cases e
theorem nrm_eq (w : W) : nrm w = nz (sortW w) := rfl
theorem getW_nrm {w : W} (hn : (names w).Nodup) (n : Str) : getW (nrm w) n = getW w n := by
  rw [nrm_eq, getW_nz (nodup_sortW hn), getW_sortW hn]
theorem getW_no {w : W} {n : Str} (h : n ∉ names w) : getW w n = 0 := by unfold getW; rw [getO_none h]; rfl
theorem getW_map {w : W} (f : Int → Int) (f0 : f 0 = 0) (n : Str) : getW (mapW f w) n = f (getW w n) := by
  have : getO (mapW f w) n = (getO w n).map f := by
    unfold getO mapW
    rw [List.find?_map]
    have : ((fun p : Str × Int => decide (p.1 = n)) ∘ fun p : Str × Int => (p.1, f p.2)) = fun p => decide (p.1 = n) := rfl
    rw [this]
    cases w.find? fun p => decide (p.1 = n) <;> rfl
  unfold getW; rw [this]
  cases getO w n <;> simp [f0]
theorem getW_mul {q : Int} {w : W} (hn : (names w).Nodup) (k : Int) (n : Str) : getW (mulW q k w) n = getW w n * k % q := by
  unfold mulW
  rw [getW_nrm (by rw [names_mapW]; exact hn), getW_map (fun v => v * k % q) (by simp)]
theorem getW_fold (q : Int) : ∀ (l s : W) (n : Str), (names l).Nodup → n ∉ names l → getW (l.foldl (addW q) s) n = getW s n
  | [], s, n, _, _ => rfl
  | p :: l, s, n, hn, hm => by
    have hn := List.nodup_cons.mp hn
    rw [List.foldl_cons, getW_fold q l _ n hn.2 fun z => hm (List.mem_cons.mpr (.inr z))]
    unfold addW
    rw [getW_put, if_neg fun z => hm (List.mem_cons.mpr (.inl z))]
theorem getW_add (q : Int) : ∀ (l s : W) (n : Str), (names l).Nodup → n ∈ names l → getW (l.foldl (addW q) s) n = (getW s n + getW l n) % q
  | [], s, n, _, h => by cases h
  | p :: l, s, n, hn, hm => by
    have hn' := List.nodup_cons.mp hn
    rw [List.foldl_cons]
    by_cases z : n = p.1
    · rw [getW_fold q l _ n hn'.2 (by rw [z]; exact hn'.1)]
      have e : getW (p :: l) n = p.2 := by unfold getW; rw [z, getO_mem hn (by simp)]; rfl
      unfold addW
      rw [getW_put, if_pos z, e, z]
    · have h : n ∈ names l := by
        rcases List.mem_cons.mp hm with y | y
        · exact absurd y z
        · exact y
      rw [getW_add q l _ n hn'.2 h]
      have e : getW (p :: l) n = getW l n := by
        have : ¬ p.1 = n := fun y => z y.symm
        unfold getW getO; rw [List.find?_cons]; simp [this]
      unfold addW
      rw [getW_put, if_neg z, e]
/-- the numbers of w are those of f, none of them 0 -/
structure Rp (w : W) (f : Str → Int) : Prop where
  nd : (names w).Nodup
  nz : ∀ p ∈ w, p.2 ≠ 0
  gw : ∀ n, getW w n = f n
def Srt (w : W) : Prop := w.Pairwise fun p q => leS p.1 q.1 = true
theorem Rp.sort {w : W} {f : Str → Int} (h : Rp w f) : Rp (sortW w) f := ⟨nodup_sortW h.nd, fun p hp => h.nz p ((sortW_perm w).mem_iff.mp hp), fun n => by rw [getW_sortW h.nd, h.gw]⟩
theorem Rp.uniq {w v : W} {f : Str → Int} (h : Rp w f) (h2 : Rp v f) (s : Srt v) : v = sortW w :=
  canon_ext h2.nd h.sort.nd h2.nz h.sort.nz s (sortW_pw w) fun n => by rw [h2.gw, h.sort.gw]
theorem srt_nrm (w : W) : Srt (nrm w) := (sortW_pw w).sublist List.filter_sublist
theorem nz_nrm {w : W} : ∀ p ∈ nrm w, p.2 ≠ 0 := fun p hp => by simpa using (List.mem_filter.mp hp).2
theorem rp_nrm {w : W} (hn : (names w).Nodup) : Rp (nrm w) (getW w) := ⟨nodup_nrm hn, nz_nrm, getW_nrm hn⟩
theorem rp_nz {w : W} (hn : (names w).Nodup) : Rp (nz w) (getW w) := ⟨names_filter hn, fun p hp => by simpa using (List.mem_filter.mp hp).2, getW_nz hn⟩
/-- a function of which only the names of U have numbers -/
structure Fn (U : List Str) (q : Int) (f : Str → Int) : Prop where
  b0 : ∀ n, 0 ≤ f n
  b1 : ∀ n, f n < q
  su : ∀ n, f n ≠ 0 → n ∈ U
theorem nodup_len {α : Type} [DecidableEq α] : ∀ (l U : List α), l.Nodup → (∀ x ∈ l, x ∈ U) → l.length ≤ U.length
  | [], U, _, _ => by simp
  | a :: l, U, h, hs => by
    have h' := List.nodup_cons.mp h
    have ih := nodup_len l (U.erase a) h'.2 fun x hx => (List.mem_erase_of_ne (fun z => h'.1 (by rw [← z]; exact hx))).mpr (hs x (by simp [hx]))
    have ha : a ∈ U := hs a (by simp)
    have e := List.length_erase_of_mem ha
    have : 0 < U.length := List.length_pos_of_mem ha
    simp only [List.length_cons]
    omega
theorem Rp.mem {w : W} {f : Str → Int} (h : Rp w f) {n : Str} : n ∈ names w ↔ f n ≠ 0 := by
  constructor
  · intro hn
    obtain ⟨p, hp, rfl⟩ := List.mem_map.mp hn
    have := h.gw p.1
    unfold getW at this
    rw [getO_mem h.nd hp] at this
    rw [← this]; exact h.nz p hp
  · intro hn
    refine Classical.byContradiction fun z => hn ?_
    rw [← h.gw, getW_no z]
theorem Rp.len {w : W} {f : Str → Int} {U : List Str} {q : Int} (h : Rp w f) (hf : Fn U q f) : w.length ≤ U.length := by
  have := nodup_len (names w) U h.nd fun n hn => hf.su n (h.mem.mp hn)
  unfold names at this
  rwa [List.length_map] at this
theorem Rp.can {w : W} {f : Str → Int} {U : List Str} {q : Int} (h : Rp w f) (hf : Fn U q f) (hU : ∀ n ∈ U, Nm n) (hl : U.length < 64) : Can q w := by
  refine ⟨fun p hp => ?_, h.nd, by have := h.len hf; omega⟩
  have e : f p.1 = p.2 := by rw [← h.gw]; unfold getW; rw [getO_mem h.nd hp]; rfl
  have hm := h.mem.mp (List.mem_map.mpr ⟨p, hp, rfl⟩)
  refine ⟨hU _ (hf.su _ hm), ?_, ?_⟩
  · rw [← e]; exact hf.b0 _
  · rw [← e]; exact hf.b1 _
theorem rp_nil : Rp [] fun _ => 0 := ⟨.nil, (fun _ z => by cases z), fun _ => rfl⟩
theorem srt_nil : Srt [] := .nil
/-- sums: added, times -/
theorem rp_add {q : Int} {w w2 : W} {f g : Str → Int} (h : Rp w f) (h2 : Rp w2 g) (hn : (names (w2.foldl (addW q) w)).Nodup) (hf : ∀ n, 0 ≤ f n ∧ f n < q) : Rp (nrm (w2.foldl (addW q) w)) fun n => (f n + g n) % q := by
  refine ⟨nodup_nrm hn, nz_nrm, fun n => ?_⟩
  rw [getW_nrm hn]
  by_cases z : n ∈ names w2
  · rw [getW_add q w2 w n h2.nd z, h.gw, h2.gw]
  · rw [getW_fold q w2 w n h2.nd z, h.gw]
    have : g n = 0 := by rw [← h2.gw, getW_no z]
    rw [this, Int.add_zero, Int.emod_eq_of_lt (hf n).1 (hf n).2]
theorem rp_mul {q : Int} {w : W} {f : Str → Int} (h : Rp w f) (k : Int) : Rp (mulW q k w) fun n => f n * k % q := by
  refine ⟨?_, nz_nrm, fun n => by rw [getW_mul h.nd, h.gw]⟩
  exact nodup_nrm (by rw [names_mapW]; exact h.nd)
theorem Fn.mul {U : List Str} {q : Int} {f : Str → Int} (hm : Md q) (h : Fn U q f) (k : Int) : Fn U q fun n => f n * k % q := by
  refine ⟨fun n => (mod_lt hm _).1, fun n => (mod_lt hm _).2, fun n hn => h.su n fun z => hn ?_⟩
  simp [z]
theorem Fn.add {U : List Str} {q : Int} {f g : Str → Int} (hm : Md q) (h : Fn U q f) (h2 : Fn U q g) (k : Int) : Fn U q fun n => (f n + k * g n) % q := by
  refine ⟨fun n => (mod_lt hm _).1, fun n => (mod_lt hm _).2, fun n hn => ?_⟩
  by_cases z : f n = 0
  · refine h2.su n fun y => hn ?_
    simp [z, y]
  · exact h.su n z
end K11

set_option Elab.async false
set_option linter.all false
set_option maxRecDepth 100000
set_option maxHeartbeats 4000000
namespace K11
open PySem PySem.Spec L2 PyProof.Rows QD QD.Ev
def adN (q b : Int) (w w2 : W) (n : Str) : Int := (getW w n + b * getW w2 n) % q
def stepW (q b : Int) (w w2 : W) (s : W) (n : Str) : W := if adN q b w w2 n ≠ 0 then putW s n (adN q b w w2 n) else s
def addedW (q b : Int) (w w2 : W) : W := (names w ++ names w2).foldl (stepW q b w w2) []
def envL (w w2 : W) (c c2 b q : Int) (s : W × Option C × Option C) : Env' := [some (.b (modD w c)), some (.b (modD w2 c2)), some (.b (.int b)), some (.b (.int q)), some (.o (.dic (toK s.1))), s.2.1, s.2.2]
def stepL (q b : Int) (w w2 : W) (s : W × Option C × Option C) (n : Str) : W × Option C × Option C := (stepW q b w w2 s.1 n, some (.g (.str n)), some (.g (.int (adN q b w w2 n))))
theorem stepL_fst (q b : Int) (w w2 : W) : ∀ (l : List Str) (s : W × Option C × Option C), (l.foldl (stepL q b w w2) s).1 = l.foldl (stepW q b w w2) s.1
  | [], s => rfl
  | n :: l, s => stepL_fst q b w w2 l (stepL q b w w2 s n)
theorem len_stepW (q b : Int) (w w2 s : W) (n : Str) : (stepW q b w w2 s n).length ≤ s.length + 1 := by
  unfold stepW; split
  · exact len_putW ..
  · omega
theorem listD_toK (w : W) : listD [.dic (toK w)] = some (.lst ((names w).map .str)) := by
  show some (D.lst ((toK w).map fun p => keyD p.1)) = _
  unfold toK names; rw [List.map_map, List.map_map]; rfl
theorem r_added {C0 : Addr} {XQ : XP} {q c c2 b : Int} {w w2 : W} {f g : Str → Int} {U : List Str} {QR : R → Prop} (hm : Md q) (h : Rp w f) (h2 : Rp w2 g) (hf : Fn U q f) (hg : Fn U q g) (hU : U.length < 100) (c20 : 0 ≤ c2) (c21 : c2 < q) :
    t_law_added C0 XQ [modD w c, modD w2 c2, .int b, .int q] QR = QR (.s (modD (addedW q b w w2) ((c + b * c2) % q))) := by
  have hp := hm.pos
  have l1 := h.len hf
  have l2 := h2.len hg
  have nl1 : (names w).length = w.length := by unfold names; rw [List.length_map]
  have nl2 : (names w2).length = w2.length := by unfold names; rw [List.length_map]
  have cat : catD (.lst ((names w).map .str)) (.lst ((names w2).map .str)) = some (.lst ((names w ++ names w2).map .str)) := by
    show (if ((names w).map D.str).length + ((names w2).map D.str).length ≤ sizeLine then _ else _) = _
    rw [if_pos (by rw [List.length_map, List.length_map, sizeLine_eq]; omega), List.map_append]
  have sg : ∀ n, small (getW w2 n) = true := fun n => small_of hm (by rw [h2.gw]; exact hg.b0 n) (by rw [h2.gw]; exact hg.b1 n)
  have it : itemsA (.g (.lst ((names w ++ names w2).map .str))) ((names w ++ names w2).map .str) = (names w ++ names w2).map fun n => .g (.str n) := by unfold itemsA; rw [List.map_map]; rfl
  simp [t_law_added, u_law_added, modD, listD_toK, cat, shallow_toK']
  have e0 : ([some (.b (.tup [.dic (toK w), .int c])), some (.b (.tup [.dic (toK w2), .int c2])), some (.b (.int b)), some (.b (.int q)), some (.o (.dic [])), none, none] : Env') = envL w w2 c c2 b q ([], none, none) := rfl
  rw [← List.map_append, it, e0]
  rw [(loop_list (fun n => A.g (.str n)) (envL w w2 c c2 b q) (stepL q b w w2) (fun j s => s.1.length ≤ j ∧ npS s.2.1 ∧ npS s.2.2) 1000 (names w ++ names w2) 0 ([], none, none) (by rw [List.length_append]; omega) ?_ ⟨by simp, npS_none, npS_none⟩).1]
  · have e1 := stepL_fst q b w w2 (names w ++ names w2) ([], none, none)
    simp at e1
    simp [envL, modD, e1, addedW, f_mulI (.inr (small_of hm c20 c21)), f_modI hp.1, sizeLine_eq]
  · rintro j s hj ⟨k1, k2, k3⟩ n hn
    refine ⟨fun N => ?_, ?_, npS_g, npS_g⟩
    · have hsz : s.1.length < sizeLine := by rw [sizeLine_eq]; omega
      simp [envL, modD, npS_npC k2, npS_npC k3]
      rw [getD_W w n rfl (fun i => rfl)]
      simp
      rw [getD_W w2 n rfl (fun i => rfl)]
      simp [f_mulI (.inr (sg n)), f_modI hp.1]
      by_cases z : adN q b w w2 n = 0
      · have z' : (getW w n + b * getW w2 n) % q = 0 := z
        simp [z', z, stepL, stepW, npS_npC k3]; try rfl
      · have z' : ¬ (getW w n + b * getW w2 n) % q = 0 := z
        simp [z', z, stepL, stepW, putD_toK, len_toK, hsz, npS_npC k3]
        exact Iff.rfl
    · have := len_stepW q b w w2 s.1 n
      show (stepW q b w w2 s.1 n).length ≤ j + 1
      omega
theorem added_inv (q b : Int) (w w2 : W) : ∀ (l : List Str) (s : W), (names s).Nodup → (∀ p ∈ s, p.2 ≠ 0) → (∀ m, getW s m = 0 ∨ getW s m = adN q b w w2 m) →
    (names (l.foldl (stepW q b w w2) s)).Nodup ∧ (∀ p ∈ l.foldl (stepW q b w w2) s, p.2 ≠ 0) ∧ (∀ m, (getW (l.foldl (stepW q b w w2) s) m = 0 ∨ getW (l.foldl (stepW q b w w2) s) m = adN q b w w2 m) ∧ (m ∈ l ∨ getW s m = adN q b w w2 m → getW (l.foldl (stepW q b w w2) s) m = adN q b w w2 m))
  | [], s, h1, h2, h3 => ⟨h1, h2, fun m => ⟨h3 m, fun h => h.elim (fun z => by cases z) id⟩⟩
  | n :: l, s, h1, h2, h3 => by
    have g1 : (names (stepW q b w w2 s n)).Nodup := by
      unfold stepW; split
      · exact nodup_putW h1 _ _
      · exact h1
    have g2 : ∀ p ∈ stepW q b w w2 s n, p.2 ≠ 0 := by
      unfold stepW; split
      · rename_i z
        intro p hp
        unfold putW at hp
        split at hp
        · obtain ⟨r, hr, rfl⟩ := List.mem_map.mp hp
          by_cases y : r.1 = n
          · simp only [y, if_true]; exact z
          · simp only [y, if_false]; exact h2 r hr
        · rcases List.mem_append.mp hp with y | y
          · exact h2 p y
          · simp at y; subst y; exact z
      · exact h2
    have e : ∀ m, getW (stepW q b w w2 s n) m = if m = n ∧ adN q b w w2 n ≠ 0 then adN q b w w2 n else getW s m := fun m => by
      unfold stepW
      by_cases z : adN q b w w2 n = 0
      · simp [z]
      · rw [if_pos z, getW_put]
        by_cases y : m = n <;> simp [y, z]
    have g3 : ∀ m, getW (stepW q b w w2 s n) m = 0 ∨ getW (stepW q b w w2 s n) m = adN q b w w2 m := fun m => by
      rw [e]
      by_cases z : m = n ∧ adN q b w w2 n ≠ 0
      · rw [if_pos z, z.1]; exact .inr rfl
      · rw [if_neg z]; exact h3 m
    obtain ⟨k1, k2, k3⟩ := added_inv q b w w2 l (stepW q b w w2 s n) g1 g2 g3
    refine ⟨k1, k2, fun m => ⟨(k3 m).1, fun h => (k3 m).2 ?_⟩⟩
    by_cases hm : m ∈ l
    · exact .inl hm
    · refine .inr ?_
      rw [e]
      by_cases z : m = n ∧ adN q b w w2 n ≠ 0
      · rw [if_pos z, z.1]
      · rw [if_neg z]
        rcases h with h | h
        · have hn : m = n := by
            rcases List.mem_cons.mp h with y | y
            · exact y
            · exact absurd y hm
          have hz : adN q b w w2 n = 0 := Classical.byContradiction fun y => z ⟨hn, y⟩
          rcases h3 m with y | y
          · rw [y, hn, hz]
          · exact y
        · exact h
theorem rp_added {q b : Int} {w w2 : W} {f g : Str → Int} (h : Rp w f) (h2 : Rp w2 g) : Rp (addedW q b w w2) fun n => (f n + b * g n) % q := by
  obtain ⟨k1, k2, k3⟩ := added_inv q b w w2 (names w ++ names w2) [] .nil (fun _ z => by cases z) fun m => .inl rfl
  refine ⟨k1, k2, fun n => ?_⟩
  have e : adN q b w w2 n = (f n + b * g n) % q := by unfold adN; rw [h.gw, h2.gw]
  rw [← e]
  by_cases z : n ∈ names w ++ names w2
  · exact (k3 n).2 (.inl z)
  · refine (k3 n).2 (.inr ?_)
    rw [List.mem_append] at z
    have a1 : getW w n = 0 := getW_no fun y => z (.inl y)
    have a2 : getW w2 n = 0 := getW_no fun y => z (.inr y)
    unfold adN
    rw [a1, a2]
    simp [getW, getO]
end K11

set_option Elab.async false
set_option linter.all false
set_option maxRecDepth 100000
set_option maxHeartbeats 4000000
namespace K11
open PySem PySem.Spec L2 PyProof.Rows QD QD.Ev
theorem kit_ll : kitB "list" "list" = some true := by decide +kernel
theorem kit_ns : kitB "NoneType" "str" = some false := by decide +kernel
theorem kit_is : kitB "int" "str" = some false := by decide +kernel
theorem kit_bs : kitB "bool" "str" = some false := by decide +kernel
theorem kit_ls : kitB "list" "str" = some false := by decide +kernel
theorem kit_ts : kitB "tuple" "str" = some false := by decide +kernel
theorem kit_ds : kitB "dict" "str" = some false := by decide +kernel
theorem signs_lt : ∀ c ∈ signsS.cps.toList, c < 0x110000 := by decide +kernel
theorem Nm.lt {x : Str} (h : Nm x) : ∀ c ∈ x.cps.toList, c < 0x110000 := fun c hc => signs_lt c (h.all c hc)
theorem sh_names {l : List Str} (h : ∀ n ∈ l, Nm n) : Sh 1 (.lst (l.map .str)) := Sh.lst fun d hd => by
  obtain ⟨n, hn, rfl⟩ := List.mem_map.mp hd
  exact Sh.str (h n hn).lt 0
theorem sh_pairs {w : W} (h : ∀ n ∈ names w, Nm n) : Sh 2 (pairsD w) := Sh.lst fun d hd => by
  obtain ⟨p, hp, rfl⟩ := List.mem_map.mp hd
  refine Sh.tup fun x hx => ?_
  simp at hx
  rcases hx with rfl | rfl
  · exact Sh.str (h p.1 (List.mem_map.mpr ⟨p, hp, rfl⟩)).lt 0
  · exact Sh.int _ 0
theorem litD_toK (w : W) : litD (.dic (toK w)) = some (pairsD w) := by
  show some (D.lst ((toK w).map fun p => .tup [keyD p.1, p.2])) = _
  unfold toK pairsD; rw [List.map_map]; rfl
theorem names_len (w : W) : (names w).length = w.length := List.length_map _
def envW (q : Int) (w : W) (c : Int) (C0 : Addr) (v : W) (x3 x4 x5 : Option C) : Env' := [some (.b (.ins C0 (fsS q w c))), some (.b (modD v c)), some (.b (.int q)), x3, x4, x5, none, none, none, none]
theorem r_weight_n {C0 : Addr} {XQ : XP} {q c : Int} {w : W} {QR : R → Prop} {d : D} (h : isT [C0] "str" [d] = some (.bl false)) : t_Sum_weight C0 XQ [.ins C0 (fsS q w c), d] QR = QR (.s (.int 0)) := by
  simp [t_Sum_weight, u_Sum_weight, lk_w, h]
theorem atI_2 {α : Type} {x y z : α} {xs : List α} : atI (x :: y :: z :: xs) 2 = some z := by
  unfold atI ixN
  have : (2 : Int) < ((x :: y :: z :: xs).length : Int) := by simp; omega
  rw [if_pos (by decide), if_pos this]; rfl
theorem sort_nil {v : W} : (sortW v = []) ↔ (v = []) := by
  have := (sortW_perm v).length_eq
  constructor
  · intro h; rw [h] at this; exact List.length_eq_zero_iff.mp this.symm
  · intro h; subst h; exact List.length_eq_zero_iff.mp this
theorem getW_odd {v : W} (h : ∀ n ∈ names v, Nm n) {x : Str} (hx : ¬ Nm x) : getW v x = 0 := getW_no fun z => hx (h x z)
theorem repD_eq {xs : List D} {k : Int} (h : -(2 ^ 63) ≤ k ∧ k < 2 ^ 63 ∧ xs.length * k.toNat ≤ sizeLine) : repD (.lst xs) (.int k) = some (.lst (List.replicate k.toNat xs).flatten) := if_pos h
theorem odd1 : ¬ Nm "A" := fun h => by
  have := h.all 65 (by decide +kernel)
  exact absurd this (by decide +kernel)
theorem odd2 : ¬ Nm "" := fun h => by
  have := h.lo
  exact absurd this (by decide +kernel)
theorem odd3 : ¬ Nm "a-" := fun h => by
  have := h.all 45 (by decide +kernel)
  exact absurd this (by decide +kernel)
def wtF (w : W) (a : A) : D := match a with
  | .g (.str n) => .int (getW w n)
  | _ => .int 0
def numF (a : A) : D := match a with
  | .g (.tup [_, v]) => v
  | _ => .int 0
theorem sh3 (a b : Int) (c : Bool) : neD (.lst [.int a, .int b, .bl c]) (.lst [.int a, .int b, .bl c]) = some (.bl false) := neD_sh (n := 1) (Sh.lst fun d hd => by
  simp at hd
  rcases hd with rfl | rfl | rfl
  · exact Sh.int _ _
  · exact Sh.int _ _
  · exact Sh.bl _ _) (by decide)
theorem r_tells {C0 : Addr} {XQ : XP} {q c : Int} {w v : W} {f : Str → Int} {QR : R → Prop} (h : Rp w f) (s : Srt w) (h2 : Rp v f) (hU : ∀ n ∈ names v, Nm n) (hl : v.length < 64) : t_law_tells C0 XQ [.ins C0 (fsS q w c), modD v c, .int q] QR = QR (.s (.bl true)) := by
  have e : w = sortW v := h2.uniq h s
  subst e
  have hn := nodup_sortW h2.nd
  have hb : decide (sortW v = []) = decide (v = []) := by rw [decide_eq_decide]; exact sort_nil
  have hs : ∀ n ∈ names (sortW v), Nm n := fun n hn => hU n (by rw [names_sortW] at hn; exact (sortS_perm _).mem_iff.mp hn)
  have n1 : neD (pairsD (sortW v)) (pairsD (sortW v)) = some (.bl false) := neD_sh (sh_pairs hs) (by decide)
  have n2 : neD (.lst ((sortS (names v)).map .str)) (.lst ((sortS (names v)).map .str)) = some (.bl false) := neD_sh (sh_names fun n hn => hs n (by rw [names_sortW]; exact hn)) (by decide)
  have so : ∀ P, sortedR [.dic (toK v)] P = P (.lst ((sortS (names v)).map .str)) := fun P => e_sortedD (keys_toK v) (by rw [names_len]; exact hl)
  have si : ∀ P, sortItR (.dic (toK v)) P = P (pairsD (sortW v)) := fun P => e_sortIt h2.nd hl
  have r2 : rangeA 0 2 = [.g (.int 0), .g (.int 1)] := rfl
  have l1 : (sortS (names v)).length < sizeLine := by rw [(sortS_perm _).length_eq, names_len, sizeLine_eq]; omega
  have l1' : (sortS (names v)).length < 16777216 := by rw [sizeLine_eq] at l1; exact l1
  have l2 : (sortW v).length < sizeLine := by rw [(sortW_perm v).length_eq, sizeLine_eq]; omega
  have t3 : ∀ (XQ : XP) {QR : R → Prop}, t_Sum_names C0 XQ [.ins C0 (fsS q (sortW v) c)] QR = QR (.o (.lst ((sortS (names v)).map .str))) := fun XQ QR => by rw [r_names, names_sortW]
  have nw : (fsS q (sortW v) c).lookup ("weights" : Str) = none := lk_no q _ c (by decide +kernel) (by decide +kernel) (by decide +kernel)
  have nn : (fsS q (sortW v) c).lookup ("names" : Str) = none := lk_no q _ c (by decide +kernel) (by decide +kernel) (by decide +kernel)
  have nt : (fsS q (sortW v) c).lookup ("weight" : Str) = none := lk_no q _ c (by decide +kernel) (by decide +kernel) (by decide +kernel)
  have pit : itemsA (.g (.lst ((sortW v).map fun p => D.tup [.str p.1, .int p.2]))) ((sortW v).map fun p => D.tup [.str p.1, .int p.2]) = (sortW v).map fun p => .g (.tup [.str p.1, .int p.2]) := by unfold itemsA; rw [List.map_map]; rfl
  have w2 : (itemsA (.g (.lst ((sortW v).map fun p => D.tup [.str p.1, .int p.2]))) ((sortW v).map fun p => D.tup [.str p.1, .int p.2])).map numF = (sortW v).map fun p => .int p.2 := by rw [pit, List.map_map]; rfl
  have w1 : (itemsA (.g (.lst ((sortS (names v)).map .str))) ((sortS (names v)).map .str)).map (wtF (sortW v)) = (sortW v).map fun p => .int p.2 := by
    rw [items_str, ← names_sortW, List.map_map]
    unfold names; rw [List.map_map]
    refine List.map_congr_left fun p hp => ?_
    show D.int (getW (sortW v) p.1) = _
    unfold getW; rw [getO_mem hn hp]; rfl
  have n3 : neD (.lst ((sortW v).map fun p => .int p.2)) (.lst ((sortW v).map fun p => .int p.2)) = some (.bl false) := neD_sh (n := 1) (Sh.lst fun d hd => by
    obtain ⟨p, _, rfl⟩ := List.mem_map.mp hd
    exact Sh.int _ _) (by decide)
  simp [t_law_tells, u_law_tells, modD, r_modulus, r_constant, r_is_constant, eq_emp, hb, sh3, sizeLine_eq, r2, e_loop1, e_loop0, nw, nn, nt, r_weights, kit_dd, kit_ll, litD_toK, si, n1, t3, so, n2, l1']
  rw [comp_map (wtF (sortW v)) (itemsA (.g (.lst ((sortS (names v)).map .str))) ((sortS (names v)).map .str)) [] (fun a ha acc Kc => ?_) ?_]
  · rw [w1]
    simp [si, shallow_toK']
    simp [pairsD]
    rw [comp_map numF (itemsA (.g (.lst ((sortW v).map fun p => D.tup [.str p.1, .int p.2]))) ((sortW v).map fun p => D.tup [.str p.1, .int p.2])) [] (fun a ha acc Kc => ?_) ?_]
    · rw [w2]
      simp [n3, sizeLine_eq]
      simp [itemsA, e_ci1, e_ci0, sizeLine_eq, nt, r_weight_s, getW_odd hs odd1, getW_odd hs odd2, getW_odd hs odd3, r_weight_n, kit_ns, kit_is, kit_bs, kit_ls, kit_ts, kit_ds]
      have rp : repD (.lst [.int 0]) (.int 9) = some (.lst [.int 0, .int 0, .int 0, .int 0, .int 0, .int 0, .int 0, .int 0, .int 0]) := by
        rw [repD_eq ⟨by decide, by decide, by rw [sizeLine_eq]; decide⟩]; rfl
      have eq9 : eqD (.lst [.int 0, .int 0, .int 0, .int 0, .int 0, .int 0, .int 0, .int 0, .int 0]) (.lst [.int 0, .int 0, .int 0, .int 0, .int 0, .int 0, .int 0, .int 0, .int 0]) = some (.bl true) := eqD_sh (n := 1) (Sh.lst fun d hd => by
        simp at hd
        rw [hd]; exact Sh.int _ _) (by decide)
      have gz : getW (sortW v) "zz" = getW v "zz" := getW_sortW h2.nd "zz"
      simp [rp, eq9, nt, r_weight_s, gz]
      rw [getD_W v "zz" rfl (fun i => rfl)]
      simp
    · have : (sortW v).length ≤ sizeLine := by omega
      simpa [itemsA] using this
    · rw [pit] at ha
      obtain ⟨p, hp, rfl⟩ := List.mem_map.mp ha
      simp [numF]
  · have : (sortS (names v)).length ≤ sizeLine := by omega
    simpa [itemsA] using this
  · rw [items_str] at ha
    obtain ⟨n, hn', rfl⟩ := List.mem_map.mp ha
    simp [wtF, nt, r_weight_s]
end K11

set_option Elab.async false
set_option linter.all false
set_option maxRecDepth 100000
set_option maxHeartbeats 4000000
namespace K11
open PySem PySem.Spec L2 PyProof.Rows QD QD.Ev
/-! sums put for names -/
abbrev T3 := List (Str × W × Int)
def sumsK (C0 : Addr) (q : Int) (T : T3) : List (Key × D) := T.map fun t => (.inr t.1, .ins C0 (fsS q (nrm t.2.1) t.2.2))
def modsK (T : T3) : List (Key × D) := T.map fun t => (.inr t.1, modD t.2.1 t.2.2)
def getT (T : T3) (n : Str) : Option (Str × W × Int) := T.find? fun t => decide (t.1 = n)
theorem valD_map (f : W × Int → D) (T : T3) (n : Str) : valD (T.map fun t => (.inr t.1, f t.2)) (.inr n) = (getT T n).map fun t => f t.2 := by
  unfold valD getT
  rw [List.find?_map]
  have : ((fun kv : Key × D => decide (kv.1 = Sum.inr n)) ∘ fun t : Str × W × Int => ((Sum.inr t.1 : Key), f t.2)) = fun t => decide (t.1 = n) := by
    funext p
    simp
  rw [this]
  cases T.find? fun p => decide (p.1 = n) <;> rfl
def imgW (T : T3) (n : Str) : W := match getT T n with
  | some t => t.2.1
  | none => [(n, 1)]
def imgC (T : T3) (n : Str) : Int := match getT T n with
  | some t => t.2.2
  | none => 0
structure TOk (q : Int) (U : List Str) (T : T3) : Prop where
  nm : ∀ t ∈ T, Nm t.1
  rp : ∀ t ∈ T, Rp t.2.1 (getW t.2.1)
  fn : ∀ t ∈ T, Fn U q (getW t.2.1)
  c0 : ∀ t ∈ T, 0 ≤ t.2.2 ∧ t.2.2 < q
  ln : T.length < 64
theorem getT_mem {T : T3} {n : Str} {t : Str × W × Int} (h : getT T n = some t) : t ∈ T ∧ t.1 = n := ⟨List.mem_of_find?_eq_some h, by simpa using List.find?_some h⟩
theorem rp_one (n : Str) : Rp [(n, 1)] (getW [(n, 1)]) := ⟨by simp [names], by simp, fun _ => rfl⟩
theorem getW_one (n m : Str) : getW [(n, 1)] m = if m = n then 1 else 0 := by
  unfold getW getO
  by_cases z : m = n
  · subst z; simp
  · have z' : ¬ n = m := fun y => z y.symm
    simp [z, z']
theorem img_rp {q : Int} {U : List Str} {T : T3} (h : TOk q U T) (n : Str) : Rp (imgW T n) (getW (imgW T n)) := by
  unfold imgW
  cases e : getT T n with
  | some t => exact h.rp t (getT_mem e).1
  | none => exact rp_one n
theorem img_fn {q : Int} {U : List Str} {T : T3} (hm : Md q) (h : TOk q U T) {n : Str} (hn : n ∈ U) : Fn U q (getW (imgW T n)) := by
  unfold imgW
  cases e : getT T n with
  | some t => exact h.fn t (getT_mem e).1
  | none =>
    have hq : 2 ≤ q := by rcases hm with rfl | rfl | rfl | rfl | rfl | rfl <;> decide
    refine ⟨fun m => ?_, fun m => ?_, fun m z => ?_⟩
    · show 0 ≤ getW [(n, 1)] m
      rw [getW_one]; split <;> omega
    · show getW [(n, 1)] m < q
      rw [getW_one]; split <;> omega
    · have z : getW [(n, 1)] m ≠ 0 := z
      rw [getW_one] at z
      by_cases y : m = n
      · rw [y]; exact hn
      · rw [if_neg y] at z; exact absurd rfl z
theorem img_c {q : Int} {U : List Str} {T : T3} (hm : Md q) (h : TOk q U T) (n : Str) : 0 ≤ imgC T n ∧ imgC T n < q := by
  unfold imgC
  cases e : getT T n with
  | some t => exact h.c0 t (getT_mem e).1
  | none => exact ⟨Int.le_refl 0, hm.pos.1⟩
def lin (l : W) (g : Str → Int) : Int := (l.map fun p => p.2 * g p.1).sum
theorem lin_cons (p : Str × Int) (l : W) (g : Str → Int) : lin (p :: l) g = p.2 * g p.1 + lin l g := rfl
theorem lin_perm {a b : W} (h : a.Perm b) (g : Str → Int) : lin a g = lin b g := by
  unfold lin
  induction h with
  | nil => rfl
  | cons p _ ih => simp only [List.map_cons, List.sum_cons, ih]
  | swap p r l => simp only [List.map_cons, List.sum_cons]; omega
  | trans _ _ h1 h2 => rw [h1, h2]
/-- the program's fold -/
def putS (q : Int) (T : T3) (s : W × Int) (p : Str × Int) : W × Int := (nrm ((mulW q p.2 (nrm (imgW T p.1))).foldl (addW q) s.1), (s.2 + imgC T p.1 * p.2 % q) % q)
/-- the law's fold -/
def repS (q : Int) (T : T3) (s : W × Int) (p : Str × Int) : W × Int := (addedW q p.2 s.1 (imgW T p.1), (s.2 + p.2 * imgC T p.1) % q)
theorem mod_step (a b q : Int) : (a % q + b) % q = (a + b) % q := by rw [Int.add_emod, Int.emod_emod_of_dvd _ (Int.dvd_refl q), ← Int.add_emod]
theorem mod_step2 (a b q : Int) : (a + b % q) % q = (a + b) % q := by rw [Int.add_emod, Int.emod_emod_of_dvd _ (Int.dvd_refl q), ← Int.add_emod]
theorem fn_mod {U : List Str} {q : Int} (hm : Md q) {A : Str → Int} (h : ∀ n, A n % q ≠ 0 → n ∈ U) : Fn U q fun n => A n % q := ⟨fun n => (mod_lt hm _).1, fun n => (mod_lt hm _).2, h⟩
/-- a state of one of the folds: numbers of A, constant of B -/
structure SOk (U : List Str) (q : Int) (s : W × Int) (A : Str → Int) (B : Int) : Prop where
  rp : Rp s.1 fun n => A n % q
  fn : Fn U q fun n => A n % q
  c : s.2 = B % q
theorem SOk.put {U : List Str} {q : Int} {s : W × Int} {A : Str → Int} {B : Int} {T : T3} (hm : Md q) (hU : ∀ n ∈ U, Nm n) (hl : U.length < 30) (h : SOk U q s A B) (ht : TOk q U T) {p : Str × Int} (hp : p.1 ∈ U) :
    SOk U q (putS q T s p) (fun n => A n + p.2 * getW (imgW T p.1) n) (B + p.2 * imgC T p.1) ∧ Srt (putS q T s p).1 := by
  have i1 := img_rp ht p.1
  have f1 := img_fn hm ht hp
  have n1 : Rp (nrm (imgW T p.1)) (getW (imgW T p.1)) := rp_nrm i1.nd
  have m1 := rp_mul (q := q) n1 p.2
  have fm := f1.mul hm p.2
  have cs := h.rp.can h.fn hU (by omega)
  have cm := m1.can fm hU (by omega)
  have inv := add_inv hm (mulW q p.2 (nrm (imgW T p.1))) s.1 cs.ok cs.nd cm.ok
  have r := rp_add (q := q) h.rp m1 inv.2.1 fun n => ⟨h.fn.b0 n, h.fn.b1 n⟩
  have e : (fun n => (A n % q + getW (imgW T p.1) n * p.2 % q) % q) = fun n => (A n + p.2 * getW (imgW T p.1) n) % q := by
    funext n
    rw [mod_step, mod_step2, Int.mul_comm]
  rw [e] at r
  refine ⟨⟨r, ?_, ?_⟩, srt_nrm _⟩
  · refine fn_mod hm fun n z => ?_
    by_cases z1 : A n % q = 0
    · refine f1.su n fun y => z ?_
      rw [y, Int.mul_zero, Int.add_zero, z1]
    · exact h.fn.su n z1
  · show (s.2 + imgC T p.1 * p.2 % q) % q = _
    rw [h.c, mod_step, mod_step2, Int.mul_comm]
theorem SOk.rep {U : List Str} {q : Int} {s : W × Int} {A : Str → Int} {B : Int} {T : T3} (hm : Md q) (h : SOk U q s A B) (ht : TOk q U T) {p : Str × Int} (hp : p.1 ∈ U) :
    SOk U q (repS q T s p) (fun n => A n + p.2 * getW (imgW T p.1) n) (B + p.2 * imgC T p.1) := by
  have i1 := img_rp ht p.1
  have f1 := img_fn hm ht hp
  have r := rp_added (q := q) (b := p.2) h.rp i1
  have e : (fun n => (A n % q + p.2 * getW (imgW T p.1) n) % q) = fun n => (A n + p.2 * getW (imgW T p.1) n) % q := by
    funext n
    rw [mod_step]
  rw [e] at r
  refine ⟨r, ?_, ?_⟩
  · refine fn_mod hm fun n z => ?_
    by_cases z1 : A n % q = 0
    · refine f1.su n fun y => z ?_
      rw [y, Int.mul_zero, Int.add_zero, z1]
    · exact h.fn.su n z1
  · show (s.2 + p.2 * imgC T p.1) % q = _
    rw [h.c, mod_step]
theorem fold_put {U : List Str} {q : Int} {T : T3} (hm : Md q) (hU : ∀ n ∈ U, Nm n) (hl : U.length < 30) (ht : TOk q U T) : ∀ (l : W) (s : W × Int) (A : Str → Int) (B : Int), (∀ n ∈ names l, n ∈ U) → Srt s.1 → SOk U q s A B →
    SOk U q (l.foldl (putS q T) s) (fun n => A n + lin l fun m => getW (imgW T m) n) (B + lin l (imgC T)) ∧ Srt (l.foldl (putS q T) s).1
  | [], s, A, B, _, hs, h => by
    have e : (fun n => A n + lin [] fun m => getW (imgW T m) n) = A := by funext n; show A n + 0 = _; omega
    have e2 : B + lin [] (imgC T) = B := by show B + 0 = _; omega
    rw [e, e2]; exact ⟨h, hs⟩
  | p :: l, s, A, B, hn, hs, h => by
    obtain ⟨h1, h2⟩ := h.put hm hU hl ht (p := p) (hn p.1 (by simp [names]))
    obtain ⟨k1, k2⟩ := fold_put hm hU hl ht l _ _ _ (fun n z => hn n (by simp only [names, List.map_cons, List.mem_cons]; exact .inr z)) h2 h1
    refine ⟨?_, k2⟩
    have e : (fun n => A n + p.2 * getW (imgW T p.1) n + lin l fun m => getW (imgW T m) n) = fun n => A n + lin (p :: l) fun m => getW (imgW T m) n := by
      funext n
      rw [lin_cons]; omega
    have e2 : B + p.2 * imgC T p.1 + lin l (imgC T) = B + lin (p :: l) (imgC T) := by
      show _ = B + (p.2 * imgC T p.1 + lin l _)
      omega
    rw [e, e2] at k1
    exact k1
theorem fold_rep {U : List Str} {q : Int} {T : T3} (hm : Md q) (ht : TOk q U T) : ∀ (l : W) (s : W × Int) (A : Str → Int) (B : Int), (∀ n ∈ names l, n ∈ U) → SOk U q s A B →
    SOk U q (l.foldl (repS q T) s) (fun n => A n + lin l fun m => getW (imgW T m) n) (B + lin l (imgC T))
  | [], s, A, B, _, h => by
    have e : (fun n => A n + lin [] fun m => getW (imgW T m) n) = A := by funext n; show A n + 0 = _; omega
    have e2 : B + lin [] (imgC T) = B := by show B + 0 = _; omega
    rw [e, e2]; exact h
  | p :: l, s, A, B, hn, h => by
    have h1 := h.rep hm ht (p := p) (hn p.1 (by simp [names]))
    have k1 := fold_rep hm ht l _ _ _ (fun n z => hn n (by simp only [names, List.map_cons, List.mem_cons]; exact .inr z)) h1
    have e : (fun n => A n + p.2 * getW (imgW T p.1) n + lin l fun m => getW (imgW T m) n) = fun n => A n + lin (p :: l) fun m => getW (imgW T m) n := by
      funext n
      rw [lin_cons]; omega
    have e2 : B + p.2 * imgC T p.1 + lin l (imgC T) = B + lin (p :: l) (imgC T) := by
      show _ = B + (p.2 * imgC T p.1 + lin l _)
      omega
    rw [e, e2] at k1
    exact k1
theorem sok_nil {U : List Str} {q c : Int} (hm : Md q) (c0 : 0 ≤ c) (c1 : c < q) : SOk U q ([], c) (fun _ => 0) c := by
  have e : (fun n : Str => (fun _ : Str => (0 : Int)) n % q) = fun _ => 0 := by funext n; simp
  refine ⟨by rw [e]; exact rp_nil, ?_, (Int.emod_eq_of_lt c0 c1).symm⟩
  exact fn_mod hm fun n z => absurd (by simp) z
end K11

set_option Elab.async false
set_option linter.all false
set_option maxRecDepth 100000
set_option maxHeartbeats 4000000
namespace K11
open PySem PySem.Spec L2 PyProof.Rows QD QD.Ev
section
variable {C0 : Addr} {XQ : XP} {q c : Int} {w : W} {QR : R → Prop} {U : List Str} {T : T3} {f : Str → Int}
theorem r_is_sum : t_is_sum C0 XQ [.ins C0 (fsS q w c), .int q] QR = QR (.s (.bl true)) := by
  simp [t_is_sum, u_is_sum, lk_m]
theorem valD_sumsK (n : Str) : valD (sumsK C0 q T) (.inr n) = (getT T n).map fun t => .ins C0 (fsS q (nrm t.2.1) t.2.2) := valD_map (fun t => .ins C0 (fsS q (nrm t.1) t.2)) T n
theorem valD_modsK (n : Str) : valD (modsK T) (.inr n) = (getT T n).map fun t => modD t.2.1 t.2.2 := valD_map (fun t => modD t.1 t.2) T n
def envP (C0 : Addr) (fs : List (Str × D)) (kds : List (Key × D)) (q : Int) (s : (W × Int) × Option C × Option C) : Env' := [some (.b (.ins C0 fs)), some (.b (.dic kds)), some (.g (.bl true)), s.2.1, some (.o (.ins C0 (fsS q s.1.1 s.1.2))), s.2.2]
def stepP (q : Int) (T : T3) (s : (W × Int) × Option C × Option C) (p : Str × Int) : (W × Int) × Option C × Option C := (putS q T s.1 p, some (.g (.str p.1)), some (.g (.int p.2)))
theorem stepP_fst : ∀ (l : W) (s : (W × Int) × Option C × Option C), (l.foldl (stepP q T) s).1 = l.foldl (putS q T) s.1
  | [], s => rfl
  | p :: l, s => stepP_fst l (stepP q T s p)
theorem getT_some {n : Str} (h : n ∈ T.map (·.1)) : ∃ t, getT T n = some t := by
  unfold getT
  obtain ⟨t, ht, rfl⟩ := List.mem_map.mp h
  cases e : T.find? fun r => decide (r.1 = t.1) with
  | none => exact absurd (List.find?_eq_none.mp e t ht) (by simp)
  | some r => exact ⟨r, rfl⟩
theorem nrm_one (n : Str) : nrm [(n, 1)] = [(n, 1)] := by
  have : sortW [(n, 1)] = [(n, 1)] := by unfold sortW; simp
  unfold nrm; rw [this]; rfl
theorem r_put (hm : Md q) (hU : ∀ n ∈ U, Nm n) (hl : U.length < 30) (ht : TOk q U T) (h : Can q w) (hw : ∀ n ∈ names w, n ∈ U) (c0 : 0 ≤ c) (c1 : c < q) :
    t_Sum_put C0 XQ [.ins C0 (fsS q w c), .dic (sumsK C0 q T)] QR = QR (.o (.ins C0 (fsS q (w.foldl (putS q T) ([], c)).1 (w.foldl (putS q T) ([], c)).2))) := by
  have hp := hm.pos
  have keysE : keysA (sumsK C0 q T) = T.map fun t => .g (.str t.1) := by
    unfold keysA sumsK; rw [List.map_map]; rfl
  have r0 : ∀ {QO : D → R → Prop}, t_Sum__init C0 noX (.ins C0 []) [.int q, .dic [], .int c] QO = QO (.ins C0 (fsS q [] c)) (.s .non) := fun {QO} => by
    have := r_init (C := C0) (XQ := noX) (w := []) (QO := QO) hm (fun _ z => by cases z) .nil (by decide) c0 c1
    have e : nrm ([] : W) = [] := by unfold nrm sortW; simp
    rw [e] at this
    exact this
  simp [t_Sum_put, u_Sum_put, kit_dd, lk_w, lk_m, lk_c, keysE]
  rw [comp_map (fun _ => .bl true) (T.map fun t => A.g (.str t.1)) [] (fun a ha acc Kc => ?_) ?_]
  · have al : allD [.lst (T.map ((fun _ => D.bl true) ∘ fun t => A.g (.str t.1)))] = some (.bl true) := all_true T
    simp [al, lk_m, lk_w, lk_c, r0]
    have e0 : ([some (.b (.ins C0 (fsS q w c))), some (.b (.dic (sumsK C0 q T))), some (.g (.bl true)), none, some (.o (.ins C0 (fsS q [] c))), none] : Env') = envP C0 (fsS q w c) (sumsK C0 q T) q (([], c), none, none) := rfl
    rw [e0, items_toK]
    rw [(loop_list (fun p : Str × Int => A.g (.tup [.str p.1, .int p.2])) (envP C0 (fsS q w c) (sumsK C0 q T) q) (stepP q T) (fun _ s => (∃ A B, SOk U q s.1 A B) ∧ npS s.2.1 ∧ npS s.2.2) 1000 w 0 (([], c), none, none) (by have := h.ln; omega) ?_ ⟨⟨_, _, sok_nil hm c0 c1⟩, npS_none, npS_none⟩).1]
    · simp [envP, stepP_fst]
      exact fun _ => all_flat' w
    · rintro j s hj ⟨⟨A, B, k1⟩, k2, k3⟩ p hp'
      have hpU := hw p.1 (List.mem_map.mpr ⟨p, hp', rfl⟩)
      refine ⟨fun N => ?_, ⟨_, _, (k1.put hm hU hl ht hpU).1⟩, npS_g, npS_g⟩
      have i1 := img_rp ht p.1
      have f1 := img_fn hm ht hpU
      have n1 : Rp (nrm (imgW T p.1)) (getW (imgW T p.1)) := rp_nrm i1.nd
      have nc := n1.can f1 hU (by omega)
      have m1 := rp_mul (q := q) n1 p.2
      have fm := f1.mul hm p.2
      have cs := k1.rp.can k1.fn hU (by omega)
      have cm := m1.can fm hU (by omega)
      have lm := m1.len fm
      have ls := k1.rp.len k1.fn
      have ic := img_c hm ht p.1
      have wo : Wok q [(p.1, 1)] := fun r hr => by
        simp at hr; subst hr
        have hq : 2 ≤ q := by rcases hm with rfl | rfl | rfl | rfl | rfl | rfl <;> decide
        exact ⟨hU _ hpU, by show (0 : Int) ≤ 1; omega, by show (1 : Int) < q; omega⟩
      have rO : ∀ {QO : D → R → Prop}, t_Sum__init C0 noX (.ins C0 []) [.int q, .dic (mergeD [] [(.inr p.1, .int 1)]), .int 0] QO = QO (.ins C0 (fsS q [(p.1, 1)] 0)) (.s .non) := fun {QO} => by
        have := r_init (C := C0) (XQ := noX) (w := [(p.1, 1)]) (QO := QO) (c := 0) hm wo (by simp [names]) (by simp) (by decide) hp.1
        rw [nrm_one] at this
        exact this
      have mu := fun (QR : R → Prop) => r_mul (C := C0) (XQ := noX) (c := imgC T p.1) (k := p.2) (QR := QR) hm nc ic.1 ic.2
      have ad := fun (QR : R → Prop) => r_add (C0 := C0) (XQ := noX) (c := s.1.2) (c2 := imgC T p.1 * p.2 % q) (QR := QR) hm cs cm (by omega)
      simp [envP, npS_npC k2, npS_npC k3, lk_m, rO, valD_sumsK]
      cases e : getT T p.1 with
      | some t =>
        have e1 : imgW T p.1 = t.2.1 := by unfold imgW; rw [e]
        have e2 : imgC T p.1 = t.2.2 := by unfold imgC; rw [e]
        rw [e1, e2] at mu
        rw [e1, e2] at ad
        simp [mu, ad, stepP, putS, e1, e2]
      | none =>
        have e1 : imgW T p.1 = [(p.1, 1)] := by unfold imgW; rw [e]
        have e2 : imgC T p.1 = 0 := by unfold imgC; rw [e]
        rw [e1, e2, nrm_one] at mu
        rw [e1, e2, nrm_one] at ad
        simp only [Int.zero_mul, Int.zero_emod, Int.add_zero] at mu ad
        simp [mu, ad, stepP, putS, e1, e2, nrm_one]
  · have := ht.ln
    rw [sizeLine_eq]; simp; omega
  · obtain ⟨t, hn, rfl⟩ := List.mem_map.mp ha
    obtain ⟨r, e⟩ := getT_some (List.mem_map.mpr ⟨t, hn, rfl⟩)
    have nm : Nm t.1 := ht.nm t hn
    have e2 : ixK (.dic (sumsK C0 q T)) (.str t.1) = some (.ins C0 (fsS q (nrm r.2.1) r.2.2)) := by
      show valD (sumsK C0 q T) (.inr t.1) = _
      rw [valD_sumsK, e]; rfl
    simp [r_is_name nm, e2, lk_m, r_is_sum]
/-! the law's way -/
def envQ (w0 : W) (c0 : Int) (kds : List (Key × D)) (q : Int) (s : (W × Int) × Option C × Option C) : Env' := [some (.b (modD w0 c0)), some (.b (.dic kds)), some (.b (.int q)), some (.g (modD s.1.1 s.1.2)), s.2.1, s.2.2]
def stepQ (q : Int) (T : T3) (s : (W × Int) × Option C × Option C) (p : Str × Int) : (W × Int) × Option C × Option C := (repS q T s.1 p, some (.g (.str p.1)), some (.g (.int p.2)))
theorem stepQ_fst : ∀ (l : W) (s : (W × Int) × Option C × Option C), (l.foldl (stepQ q T) s).1 = l.foldl (repS q T) s.1
  | [], s => rfl
  | p :: l, s => stepQ_fst l (stepQ q T s p)
theorem r_replaced (hm : Md q) (hl : U.length < 30) (ht : TOk q U T) (hw : ∀ n ∈ names w, n ∈ U) (lw : w.length < 64) (c0 : 0 ≤ c) (c1 : c < q) :
    t_law_replaced C0 XQ [modD w c, .dic (modsK T), .int q] QR = QR (.s (modD (w.foldl (repS q T) ([], c)).1 (w.foldl (repS q T) ([], c)).2)) := by
  have hp := hm.pos
  simp [t_law_replaced, u_law_replaced, modD, shallow_toK', sizeLine_eq]
  have e0 : ([some (.b (.tup [.dic (toK w), .int c])), some (.b (.dic (modsK T))), some (.b (.int q)), some (.g (.tup [.dic [], .int c])), none, none] : Env') = envQ w c (modsK T) q (([], c), none, none) := rfl
  rw [e0, items_toK]
  rw [(loop_list (fun p : Str × Int => A.g (.tup [.str p.1, .int p.2])) (envQ w c (modsK T) q) (stepQ q T) (fun _ s => (∃ A B, SOk U q s.1 A B) ∧ npS s.2.1 ∧ npS s.2.2) 1000 w 0 (([], c), none, none) (by omega) ?_ ⟨⟨_, _, sok_nil hm c0 c1⟩, npS_none, npS_none⟩).1]
  · simp [envQ, stepQ_fst, modD]
    exact fun _ => all_flat' w
  · rintro j s hj ⟨⟨A, B, k1⟩, k2, k3⟩ p hp'
    have hpU := hw p.1 (List.mem_map.mpr ⟨p, hp', rfl⟩)
    refine ⟨fun N => ?_, ⟨_, _, k1.rep hm ht hpU⟩, npS_g, npS_g⟩
    have i1 := img_rp ht p.1
    have f1 := img_fn hm ht hpU
    have ic := img_c hm ht p.1
    have ad := fun (QR : R → Prop) => r_added (C0 := C0) (XQ := noX) (c := s.1.2) (c2 := imgC T p.1) (b := p.2) (QR := QR) hm k1.rp i1 k1.fn f1 (by omega) ic.1 ic.2
    have md : mergeD [] [((Sum.inr p.1 : Key), D.int 1)] = [(Sum.inr p.1, .int 1)] := rfl
    simp [envQ, npS_npC k2, npS_npC k3, valD_modsK, md, sizeLine_eq]
    cases e : getT T p.1 with
    | some t =>
      have e1 : imgW T p.1 = t.2.1 := by unfold imgW; rw [e]
      have e2 : imgC T p.1 = t.2.2 := by unfold imgC; rw [e]
      rw [e1, e2] at ad
      simp [modD] at ad
      simp [ad, stepQ, repS, e1, e2, modD]
    | none =>
      have e1 : imgW T p.1 = [(p.1, 1)] := by unfold imgW; rw [e]
      have e2 : imgC T p.1 = 0 := by unfold imgC; rw [e]
      rw [e1, e2] at ad
      simp only [Int.mul_zero, Int.add_zero] at ad
      have tk : toK [(p.1, 1)] = [(Sum.inr p.1, D.int 1)] := rfl
      simp [modD, tk] at ad
      simp [ad, stepQ, repS, e1, e2, modD]
end
end K11

set_option Elab.async false
set_option linter.all false
set_option maxRecDepth 100000
set_option maxHeartbeats 4000000
namespace K11
open PySem PySem.Spec L2 PyProof.Rows QD QD.Ev
/-! pairs put one after another -/
def mkW (acc ps : W) : W := ps.foldl (fun w p => putW w p.1 p.2) acc
theorem merge_mkW : ∀ (ps acc : W), mergeD (toK acc) (toK ps) = toK (mkW acc ps)
  | [], acc => rfl
  | p :: ps, acc => by
    have e : mergeD (toK acc) (toK (p :: ps)) = mergeD (putD (toK acc) (.inr p.1) (.int p.2)) (toK ps) := rfl
    rw [e, putD_toK, merge_mkW ps]; rfl
theorem dict_mkW (ps : W) : dictD [.lst (ps.map fun p => D.tup [.str p.1, .int p.2])] = some (.dic (toK (mkW [] ps))) := by
  show ((ps.map fun p => D.tup [.str p.1, .int p.2]).mapM pairD).map _ = _
  rw [pairs_W]
  show some (D.dic (mergeD (toK []) (toK ps))) = _
  rw [merge_mkW]
theorem mkW_ok {q : Int} : ∀ (ps acc : W), Wok q acc → (names acc).Nodup → (∀ p ∈ ps, Nm p.1 ∧ 0 ≤ p.2 ∧ p.2 < q) →
    Wok q (mkW acc ps) ∧ (names (mkW acc ps)).Nodup ∧ (mkW acc ps).length ≤ acc.length + ps.length ∧ ∀ n, n ∈ names acc ∨ n ∈ names ps → n ∈ names (mkW acc ps)
  | [], acc, h1, h2, _ => ⟨h1, h2, by simp [mkW], fun n h => h.elim id fun z => by cases z⟩
  | p :: ps, acc, h1, h2, h3 => by
    obtain ⟨a, b, c⟩ := h3 p (by simp)
    have ln := len_putW acc p.1 p.2
    obtain ⟨k1, k2, k3, k4⟩ := mkW_ok ps (putW acc p.1 p.2) (h1.put a b c) (nodup_putW h2 _ _) fun r hr => h3 r (by simp [hr])
    refine ⟨k1, k2, ?_, fun n h => k4 n ?_⟩
    · have e : mkW acc (p :: ps) = mkW (putW acc p.1 p.2) ps := rfl
      rw [e]; simp only [List.length_cons]; omega
    · rw [names_putW]
      rcases h with h | h
      · left; split
        · exact h
        · exact List.mem_append.mpr (.inl h)
      · rcases List.mem_cons.mp h with z | z
        · left; split
          · rw [z]; assumption
          · rw [z]; simp
        · exact .inr z
section
variable {wt : UTg} {ut : UT} {ue : UG} {vs : List Nat} {XQ : XP}
theorem comp_names {q : Int} {env : Rg → Env'} (step : ∀ r : Rg, r.Ok → ∀ n : Str, ∃ (r' : Rg) (v : Int), r'.Ok ∧ 0 ≤ v ∧ v < q ∧ ∀ acc Kc, wt (env r) (.g (.str n)) (kCI1 ut ue vs XQ acc Kc) = (acc.length < sizeLine ∧ Kc (acc ++ [.tup [.str n, .int v]]) (env r'))) :
    ∀ (l : List Str) (acc : List D) (r : Rg), r.Ok → acc.length + l.length ≤ sizeLine → ∃ (r' : Rg) (ps : W), r'.Ok ∧ names ps = l ∧ (∀ p ∈ ps, 0 ≤ p.2 ∧ p.2 < q) ∧ ∀ Q, uCompI wt ut ue vs XQ (l.map fun n => .g (.str n)) acc (env r) Q = Q (env r') (acc ++ ps.map fun p => .tup [.str p.1, .int p.2])
  | [], acc, r, hr, _ => ⟨r, [], hr, rfl, (fun _ z => by cases z), fun Q => by rw [List.map_nil, e_ci0]; simp⟩
  | n :: l, acc, r, hr, hl => by
    simp only [List.length_cons] at hl
    obtain ⟨r1, v, g1, g2, g3, e1⟩ := step r hr n
    obtain ⟨r2, ps, k1, k2, k3, e2⟩ := comp_names step l (acc ++ [.tup [.str n, .int v]]) r1 g1 (by simp; omega)
    refine ⟨r2, (n, v) :: ps, k1, by rw [← k2]; rfl, fun p hp => ?_, fun Q => ?_⟩
    · rcases List.mem_cons.mp hp with rfl | hp
      · exact ⟨g2, g3⟩
      · exact k3 p hp
    · have hlt : acc.length < sizeLine := by omega
      rw [List.map_cons, e_ci1, e1, e_kCI0, e2]
      simp [hlt]
end
/-! entries of the dicts of sums and models -/
def putT (T : T3) (n : Str) (w : W) (c : Int) : T3 := if n ∈ T.map (·.1) then T.map fun t => if t.1 = n then (t.1, w, c) else t else T ++ [(n, w, c)]
theorem putD_map (g : W × Int → D) (T : T3) (n : Str) (w : W) (c : Int) : putD (T.map fun t => (.inr t.1, g t.2)) (.inr n) (g (w, c)) = (putT T n w c).map fun t => (.inr t.1, g t.2) := by
  unfold putD putT
  have e : ((T.map fun t => ((Sum.inr t.1 : Key), g t.2)).any fun kv => decide (kv.1 = Sum.inr n)) = true ↔ n ∈ T.map (·.1) := by
    rw [List.any_eq_true]
    constructor
    · rintro ⟨p, hp, z⟩
      obtain ⟨r, hr, rfl⟩ := List.mem_map.mp hp
      have z : (Sum.inr r.1 : Key) = Sum.inr n := of_decide_eq_true z
      exact List.mem_map.mpr ⟨r, hr, Sum.inr.inj z⟩
    · intro h
      obtain ⟨r, hr, rfl⟩ := List.mem_map.mp h
      exact ⟨_, List.mem_map.mpr ⟨r, hr, rfl⟩, decide_eq_true rfl⟩
  by_cases h : n ∈ T.map (·.1)
  · rw [if_pos (e.mpr h), if_pos h]
    rw [List.map_map, List.map_map]
    refine List.map_congr_left fun p _ => ?_
    show (if (Sum.inr p.1 : Key) = Sum.inr n then _ else _) = _
    by_cases z : p.1 = n
    · rw [if_pos (by rw [z])]; simp [z]
    · rw [if_neg (fun y => z (Sum.inr.inj y))]; simp [z]
  · rw [if_neg (fun y => h (e.mp y)), if_neg h]
    rw [List.map_append]; rfl
theorem putD_sumsK (C0 : Addr) (q : Int) (T : T3) (n : Str) (w : W) (c : Int) : putD (sumsK C0 q T) (.inr n) (.ins C0 (fsS q (nrm w) c)) = sumsK C0 q (putT T n w c) := putD_map (fun t => .ins C0 (fsS q (nrm t.1) t.2)) T n w c
theorem putD_modsK (T : T3) (n : Str) (w : W) (c : Int) : putD (modsK T) (.inr n) (modD w c) = modsK (putT T n w c) := putD_map (fun t => modD t.1 t.2) T n w c
theorem len_putT (T : T3) (n : Str) (w : W) (c : Int) : (putT T n w c).length ≤ T.length + 1 := by
  unfold putT; split <;> simp
theorem putT_mem {T : T3} {n : Str} {w : W} {c : Int} {t : Str × W × Int} (h : t ∈ putT T n w c) : t ∈ T ∨ t = (n, w, c) := by
  unfold putT at h
  split at h
  · obtain ⟨r, hr, rfl⟩ := List.mem_map.mp h
    by_cases z : r.1 = n
    · simp only [z, if_true]; exact .inr trivial
    · simp only [z, if_false]; exact .inl hr
  · rcases List.mem_append.mp h with z | z
    · exact .inl z
    · simp at z; exact .inr z
theorem nodup_putT {T : T3} (h : (T.map (·.1)).Nodup) (n : Str) (w : W) (c : Int) : ((putT T n w c).map (·.1)).Nodup := by
  unfold putT
  split
  · have e : (T.map fun t => if t.1 = n then (t.1, w, c) else t).map (·.1) = T.map (·.1) := by
      rw [List.map_map]
      refine List.map_congr_left fun p _ => ?_
      by_cases z : p.1 = n <;> simp [z]
    rw [e]; exact h
  · rename_i z
    rw [List.map_append, List.nodup_append]
    exact ⟨h, by simp, fun a ha b hb e => z (by simp at hb; rw [← hb, ← e]; exact ha)⟩
theorem getT_putT (T : T3) (n : Str) (w : W) (c : Int) : getT (putT T n w c) n = some (n, w, c) := by
  unfold putT
  split
  · rename_i h
    unfold getT
    obtain ⟨t, ht, e⟩ := List.mem_map.mp h
    cases e2 : (T.map fun t => if t.1 = n then (t.1, w, c) else t).find? fun t => decide (t.1 = n) with
    | none =>
      have := List.find?_eq_none.mp e2 _ (List.mem_map.mpr ⟨t, ht, rfl⟩)
      simp [e] at this
    | some r =>
      have h1 := List.mem_of_find?_eq_some e2
      have h2 : r.1 = n := by simpa using List.find?_some e2
      obtain ⟨s, hs, rfl⟩ := List.mem_map.mp h1
      by_cases z : s.1 = n
      · simp [z]
      · simp [z] at h2
  · rename_i h
    unfold getT
    rw [List.find?_append, List.find?_eq_none.mpr fun t ht z => h (List.mem_map.mpr ⟨t, ht, of_decide_eq_true z⟩)]
    simp
theorem tok_put {q : Int} {U : List Str} {T : T3} (h : TOk q U T) {n : Str} {w : W} {c : Int} (hn : Nm n) (r : Rp w (getW w)) (f : Fn U q (getW w)) (c0 : 0 ≤ c) (c1 : c < q) (hl : T.length < 60) : TOk q U (putT T n w c) := by
  refine ⟨fun t ht => ?_, fun t ht => ?_, fun t ht => ?_, fun t ht => ?_, by have := len_putT T n w c; omega⟩ <;> rcases putT_mem ht with z | rfl
  · exact h.nm t z
  · exact hn
  · exact h.rp t z
  · exact r
  · exact h.fn t z
  · exact f
  · exact h.c0 t z
  · exact ⟨c0, c1⟩
theorem dr_fn {q : Int} {fd : List Str} {h : W} (hm : Md q) (d : Dr q fd h) : Fn fd q (getW (nz h)) := by
  have b : ∀ n, 0 ≤ getW (nz h) n ∧ getW (nz h) n < q := fun n => by
    rw [getW_nz d.nd]
    unfold getW
    cases e : getO h n with
    | none => exact ⟨Int.le_refl 0, hm.pos.1⟩
    | some i => exact (d.can _ (getO_some e)).2
  refine ⟨fun n => (b n).1, fun n => (b n).2, fun n z => ?_⟩
  refine Classical.byContradiction fun y => z ?_
  rw [getW_nz d.nd, getW_no fun x => y (d.sub n x)]
theorem dr_rp {q : Int} {fd : List Str} {h : W} (d : Dr q fd h) : Rp (nz h) (getW (nz h)) := by
  have := rp_nz d.nd
  exact ⟨this.nd, this.nz, fun _ => rfl⟩
end K11

set_option Elab.async false
set_option linter.all false
set_option maxRecDepth 100000
set_option maxHeartbeats 4000000
namespace K11
open PySem PySem.Spec L2 PyProof.Rows QD QD.Ev
structure Pair (U : List Str) (q : Int) (w v : W) (c : Int) (f : Str → Int) : Prop where
  rw : Rp w f
  rv : Rp v f
  sw : Srt w
  fn : Fn U q f
  c0 : 0 ≤ c
  c1 : c < q
theorem Pair.eq {U : List Str} {q c : Int} {w v : W} {f : Str → Int} (p : Pair U q w v c f) : w = sortW v := p.rv.uniq p.rw p.sw
theorem Pair.perm {U : List Str} {q c : Int} {w v : W} {f : Str → Int} (p : Pair U q w v c f) : w.Perm v := by rw [p.eq]; exact sortW_perm v
theorem Pair.nw {U : List Str} {q c : Int} {w v : W} {f : Str → Int} (p : Pair U q w v c f) : ∀ n ∈ names w, n ∈ U := fun n h => p.fn.su n (p.rw.mem.mp h)
theorem Pair.nv {U : List Str} {q c : Int} {w v : W} {f : Str → Int} (p : Pair U q w v c f) : ∀ n ∈ names v, n ∈ U := fun n h => p.fn.su n (p.rv.mem.mp h)
theorem valW_lin (w u : W) : valW w u = lin w (getW u) := rfl
section
variable {C0 : Addr} {XQ : XP} {q c : Int} {w v : W} {QR : R → Prop} {U : List Str} {T : T3} {f : Str → Int}
theorem tells_pair (hU : ∀ n ∈ U, Nm n) (hl : U.length < 30) (p : Pair U q w v c f) : t_law_tells C0 XQ [.ins C0 (fsS q w c), modD v c, .int q] QR = QR (.s (.bl true)) :=
  r_tells p.rw p.sw p.rv (fun n hn => hU n (p.nv n hn)) (by have := p.rv.len p.fn; omega)
theorem tells_sok {s t : W × Int} {A : Str → Int} {B : Int} (hU : ∀ n ∈ U, Nm n) (hl : U.length < 30) (h1 : SOk U q s A B) (h2 : SOk U q t A B) (hs : Srt s.1) : t_law_tells C0 XQ [.ins C0 (fsS q s.1 s.2), modD t.1 t.2, .int q] QR = QR (.s (.bl true)) := by
  have e : t.2 = s.2 := by rw [h1.c, h2.c]
  rw [e]
  exact r_tells h1.rp hs h2.rp (fun n hn => hU n (h2.fn.su n (h2.rp.mem.mp hn))) (by have := h2.rp.len h2.fn; omega)
theorem tells_put (hm : Md q) (hU : ∀ n ∈ U, Nm n) (hl : U.length < 30) (ht : TOk q U T) (p : Pair U q w v c f) :
    t_law_tells C0 XQ [.ins C0 (fsS q (w.foldl (putS q T) ([], c)).1 (w.foldl (putS q T) ([], c)).2), modD (v.foldl (repS q T) ([], c)).1 (v.foldl (repS q T) ([], c)).2, .int q] QR = QR (.s (.bl true)) := by
  obtain ⟨h1, h2⟩ := fold_put hm hU hl ht w ([], c) _ _ p.nw srt_nil (sok_nil hm p.c0 p.c1)
  have h3 := fold_rep hm ht v ([], c) _ _ p.nv (sok_nil (U := U) hm p.c0 p.c1)
  have e1 : ∀ g, lin v g = lin w g := fun g => lin_perm p.perm.symm g
  simp only [e1] at h3
  exact tells_sok hU hl h1 h3 h2
theorem lin_id : ∀ (w : W) (n : Str), (names w).Nodup → lin w (fun m => getW [(m, 1)] n) = getW w n
  | [], n, _ => rfl
  | p :: w, n, h => by
    have h' := List.nodup_cons.mp h
    rw [lin_cons, lin_id w n h'.2, getW_one]
    by_cases z : n = p.1
    · rw [if_pos z, z]
      have : getW w p.1 = 0 := getW_no h'.1
      have e : getW (p :: w) p.1 = p.2 := by unfold getW; rw [getO_mem h (by simp)]; rfl
      rw [this, e]; omega
    · rw [if_neg z]
      have e : getW (p :: w) n = getW w n := by
        have z' : ¬ p.1 = n := fun y => z y.symm
        unfold getW getO; rw [List.find?_cons]; simp [z']
      rw [e]; omega
theorem lin_zero : ∀ w : W, lin w (fun _ => 0) = 0
  | [] => rfl
  | p :: w => by rw [lin_cons, lin_zero w]; omega
theorem tok_nil : TOk q U [] := ⟨(fun _ h => nomatch h), (fun _ h => nomatch h), (fun _ h => nomatch h), (fun _ h => nomatch h), (by decide : 0 < 64)⟩
theorem tells_put0 (hm : Md q) (hU : ∀ n ∈ U, Nm n) (hl : U.length < 30) (p : Pair U q w v c f) :
    t_law_tells C0 XQ [.ins C0 (fsS q (w.foldl (putS q []) ([], c)).1 (w.foldl (putS q []) ([], c)).2), modD v c, .int q] QR = QR (.s (.bl true)) := by
  obtain ⟨h1, h2⟩ := fold_put hm hU hl (tok_nil (U := U)) w ([], c) _ _ p.nw srt_nil (sok_nil hm p.c0 p.c1)
  have e1 : (fun n => (fun _ : Str => (0 : Int)) n + lin w fun m => getW (imgW [] m) n) = f := by
    funext n
    show 0 + lin w (fun m => getW [(m, 1)] n) = _
    rw [lin_id w n p.rw.nd, p.rw.gw]; omega
  have e2 : c + lin w (imgC []) = c := by
    have : lin w (imgC []) = 0 := lin_zero w
    rw [this]; omega
  rw [e1, e2] at h1
  have e3 : (fun n => f n % q) = f := by funext n; exact Int.emod_eq_of_lt (p.fn.b0 n) (p.fn.b1 n)
  have h3 : SOk U q (v, c) f c := ⟨by rw [e3]; exact p.rv, by rw [e3]; exact p.fn, (Int.emod_eq_of_lt p.c0 p.c1).symm⟩
  have h4 := tells_sok (C0 := C0) (XQ := XQ) (QR := QR) (s := (w.foldl (putS q []) ([], c))) (t := (v, c)) hU hl h1 h3 h2
  exact h4
end
end K11

set_option Elab.async false
set_option linter.all false
set_option maxRecDepth 100000
set_option maxHeartbeats 4000000
namespace K11
open PySem PySem.Spec L2 PyProof.Rows QD QD.Ev
def pairD2 (C0 : Addr) (q : Int) (w v : W) (c : Int) : D := .tup [.ins C0 (fsS q w c), modD v c]
def ueV (C0 : Addr) : UG := (uG (uTup (uCons (uVar 5) (uCons (uO (uCallO 0 [.b] (t_law_draw C0) [] (uCons (uVar 0) (uCons (uVar 3) uNil)))) uNil))))
def usV (C0 : Addr) : US := (uIfS (uB (uS2 gtI (uO (uCallO 0 [.b] (t_law_draw C0) [] (uCons (uVar 0) (uCons (uC (.int 3)) uNil)))) (uC (.int 0)))) (uSeq (uPut 8 (uG (uE2 ixTD (uO (uCallO 0 [.b, .b] (t_law_drawn C0) [] (uCons (uVar 0) (uCons (uVar 1) (uCons (uVar 3) uNil))))) (uC (.int 0)))) (uVar 5))
    (uPut 7 (uG (uMake C0 [.b, .b, .b] (t_Sum__init C0) [] (uCons (uVar 3) (uCons (uO (uE2 ixTD (uO (uE2 ixK (uVar 8) (uVar 5))) (uC (.int 0)))) (uCons (uO (uE2 ixTD (uO (uE2 ixK (uVar 8) (uVar 5))) (uC (.int 1)))) uNil))))) (uVar 5))) uNext)
def envV (C0 : Addr) (q : Int) (U : List Str) (ps : D) (u : W) (r : Rg) (T : T3) (x5 : Option C) : Env' := [some (.p (rgD r)), some (.b (.lst (U.map .str))), some (.b ps), some (.b (.int q)), some (.o (.dic (toK u))), x5, some (.o (.dic (toK u))), some (.o (.dic (sumsK C0 q T))), some (.o (.dic (modsK T))), none, none]
theorem len_sumsK (C0 : Addr) (q : Int) (T : T3) : (sumsK C0 q T).length = T.length := List.length_map _
theorem len_modsK (T : T3) : (modsK T).length = T.length := List.length_map _
theorem r_v_one {C0 : Addr} {XQ : XP} {q : Int} {U : List Str} {ps : D} {u : W} {T : T3} {x5 : Option C} (hm : Md q) (hU : ∀ n ∈ U, Nm n) (hl : U.length ≤ 6) (r : Rg) (hr : r.Ok) (ht : TOk q U T) (hn : (T.map (·.1)).Nodup) (n5 : npS x5) (n : Str) (nn : Nm n) (lT : T.length < 60) :
    ∃ (r' : Rg) (T' : T3), r'.Ok ∧ TOk q U T' ∧ (T'.map (·.1)).Nodup ∧ T'.length ≤ T.length + 1 ∧ ∀ (DD : ED) N, gN 5 (envV C0 q U ps u r T x5) (.g (.str n)) (kLp (usV C0) XQ N DD) = N (envV C0 q U ps u r' T' (some (.g (.str n)))) := by
  have hq := hm.pos
  have r1 := hr.draw (m := 3) (by decide)
  have sz : T.length < sizeLine := by rw [sizeLine_eq]; omega
  by_cases z : 0 < drawN r 3
  · obtain ⟨r2, h, c, g1, g2, c0, c1, e⟩ := r_drawn (C0 := C0) (XQ := noX) (fd := U) hm hU (by omega) r1
    have dn := dr_rp g2
    have df := dr_fn hm g2
    have can := dn.can df hU (by omega)
    have ix : ixK (.dic (modsK (putT T n (nz h) c))) (.str n) = some (modD (nz h) c) := by
      show valD (modsK (putT T n (nz h) c)) (.inr n) = _
      rw [valD_modsK, getT_putT]; rfl
    refine ⟨r2, putT T n (nz h) c, g1, tok_put ht nn dn df c0 c1 lT, nodup_putT hn _ _ _, len_putT _ _ _ _, fun DD N => ?_⟩
    have e1 : ∀ {QO}, t_Sum__init C0 noX (.ins C0 []) [.int q, .dic (toK (nz h)), .int c] QO = QO (.ins C0 (fsS q (nrm (nz h)) c)) (.s .non) := fun {QO} => by
      have := r_init (C := C0) (XQ := noX) (QO := QO) hm can.ok can.nd can.ln c0 c1
      exact this
    simp [usV, envV, npS_npC n5, r_draw hr (show (0 : Int) < 3 by decide) (by decide), z, e, putD_modsK, len_modsK, sz, ix]
    simp [modD, ix, e1, putD_sumsK, len_sumsK, sz]
  · refine ⟨drawR r 3, T, r1, ht, hn, by omega, fun DD N => ?_⟩
    simp [usV, envV, npS_npC n5, r_draw hr (show (0 : Int) < 3 by decide) (by decide), z]
theorem r_v_loop {C0 : Addr} {XQ : XP} {q : Int} {U : List Str} {ps : D} {u : W} (hm : Md q) (hU : ∀ n ∈ U, Nm n) (hl : U.length ≤ 6) {r : Rg} (hr : r.Ok) :
    ∃ (r' : Rg) (T : T3) (x5 : Option C), r'.Ok ∧ TOk q U T ∧ (T.map (·.1)).Nodup ∧ npS x5 ∧ ∀ DD, uLoop (gN 5) (usV C0) XQ DD ((U ++ [("q9" : Str)]).map fun n => .g (.str n)) (envV C0 q U ps u r [] none) = DD.nx (envV C0 q U ps u r' T x5) := by
  have hq9 : Nm "q9" := ⟨by decide +kernel, by decide +kernel, ⟨113, by decide +kernel, by decide +kernel⟩, by decide +kernel⟩
  obtain ⟨L', ⟨r', T, x5, k1, k2, k3, k4, k5, rfl⟩, e⟩ := loop_exN (wt := gN 5) (us := usV C0) (XQ := XQ) 7
    (fun k L => ∃ (r : Rg) (T : T3) (x5 : Option C), r.Ok ∧ TOk q U T ∧ (T.map (·.1)).Nodup ∧ T.length ≤ k ∧ npS x5 ∧ L = envV C0 q U ps u r T x5) ((U ++ [("q9" : Str)]).map fun n => .g (.str n)) 0 (envV C0 q U ps u r [] none) (by simp; omega) (by
      rintro j L a hj ⟨r, T, x5, k1, k2, k3, k4, k5, rfl⟩ ha
      obtain ⟨n, hn, rfl⟩ := List.mem_map.mp ha
      have nn : Nm n := by
        rcases List.mem_append.mp hn with z | z
        · exact hU n z
        · simp at z; rw [z]; exact hq9
      obtain ⟨r1, T1, g1, g2, g3, g4, g5⟩ := r_v_one (C0 := C0) (XQ := XQ) (ps := ps) (u := u) hm hU hl r k1 k2 k3 k5 n nn (by omega)
      exact ⟨_, ⟨r1, T1, some (.g (.str n)), g1, g2, g3, by omega, npS_g, rfl⟩, fun N DD => g5 DD N⟩) ⟨r, [], none, hr, tok_nil, .nil, by simp, npS_none, rfl⟩
  exact ⟨r', T, x5, k1, k2, k3, k5, e⟩
end K11

set_option Elab.async false
set_option linter.all false
set_option maxRecDepth 100000
set_option maxHeartbeats 4000000
namespace K11
open PySem PySem.Spec L2 PyProof.Rows QD QD.Ev
theorem Can.rev {q : Int} {u : W} (h : Can q u) : Can q u.reverse := ⟨fun p hp => h.ok p (List.mem_reverse.mp hp), by unfold names; rw [List.map_reverse]; exact (List.reverse_perm _).nodup_iff.mpr h.nd, by rw [List.length_reverse]; exact h.ln⟩
theorem getW_rev {u : W} (h : (names u).Nodup) (n : Str) : getW u.reverse n = getW u n := by
  have h2 : (names u.reverse).Nodup := by unfold names; rw [List.map_reverse]; exact (List.reverse_perm _).nodup_iff.mpr h
  unfold getW; rw [getO_congr h2 h fun p => List.mem_reverse]
theorem names_rev (u : W) (n : Str) : n ∈ names u.reverse ↔ n ∈ names u := by unfold names; rw [List.map_reverse, List.mem_reverse]
theorem valW_rev {u : W} (h : (names u).Nodup) (w : W) : valW w u.reverse = valW w u := by
  unfold valW
  congr 1
  exact List.map_congr_left fun p _ => by rw [getW_rev h]
theorem lk_at (q : Int) (w : W) (c : Int) : (fsS q w c).lookup ("at" : Str) = none := lk_no q w c (by decide +kernel) (by decide +kernel) (by decide +kernel)
theorem lk_put (q : Int) (w : W) (c : Int) : (fsS q w c).lookup ("put" : Str) = none := lk_no q w c (by decide +kernel) (by decide +kernel) (by decide +kernel)
theorem flat_modD (v : W) (c : Int) : D.flat (modD v c) = false := rfl
theorem keysS_T (f : W × Int → D) : ∀ T : T3, keysS (T.map fun t => (.inr t.1, f t.2)) = some (T.map (·.1))
  | [] => rfl
  | t :: T => by
    have ih := keysS_T f T
    unfold keysS at ih ⊢
    rw [List.map_cons, List.mapM_cons, ih]; rfl
theorem r_values_right {C0 : Addr} {XQ : XP} {q c c2 : Int} {w v w2 v2 : W} {U : List Str} {f f2 : Str → Int} {r : Rg} (hm : Md q) (hU : ∀ n ∈ U, Nm n) (hl : U.length ≤ 6) (p : Pair U q w v c f) (p2 : Pair U q w2 v2 c2 f2) (hr : r.Ok) :
    ∃ r' : Rg, r'.Ok ∧ ∀ QO, t_law_values_right C0 XQ (rgD r) [.lst (U.map .str), .lst [pairD2 C0 q w v c, pairD2 C0 q w2 v2 c2], .int q] QO = QO (rgD r') (.s (.bl true)) := by
  have hp := hm.pos
  obtain ⟨U1, eU1⟩ : ∃ l : List Str, l = U ++ [("further" : Str), "a1a"] := ⟨_, rfl⟩
  obtain ⟨U2, eU2⟩ : ∃ l : List Str, l = U ++ [("q9" : Str)] := ⟨_, rfl⟩
  have cat1 : catD (.lst (U.map .str)) (.lst [.str "further", .str "a1a"]) = some (.lst (U1.map .str)) := by
    show (if _ then _ else _) = _
    rw [if_pos (by rw [List.length_map, sizeLine_eq]; simp; omega), eU1, List.map_append]; rfl
  have cat2 : catD (.lst (U.map .str)) (.lst [.str "q9"]) = some (.lst (U2.map .str)) := by
    show (if _ then _ else _) = _
    rw [if_pos (by rw [List.length_map, sizeLine_eq]; simp; omega), eU2, List.map_append]; rfl
  have hU1 : ∀ n ∈ U1, Nm n := fun n hn => by
    rw [eU1] at hn
    rcases List.mem_append.mp hn with z | z
    · exact hU n z
    · simp at z
      rcases z with rfl | rfl
      · exact ⟨by decide +kernel, by decide +kernel, ⟨102, by decide +kernel, by decide +kernel⟩, by decide +kernel⟩
      · exact ⟨by decide +kernel, by decide +kernel, ⟨97, by decide +kernel, by decide +kernel⟩, by decide +kernel⟩
  have lU1 : U1.length ≤ 8 := by rw [eU1]; simp; omega
  obtain ⟨ps, eps⟩ : ∃ d : D, d = .lst [pairD2 C0 q w v c, pairD2 C0 q w2 v2 c2] := ⟨_, rfl⟩
  obtain ⟨r1, pw, g1, g2, g3, e1⟩ := comp_names (wt := gN 5) (ut := uYes) (ue := ueV C0) (vs := [5]) (XQ := XQ) (q := q) (env := fun r => [some (.p (rgD r)), some (.b (.lst (U.map .str))), some (.b ps), some (.b (.int q)), none, none, none, none, none, none, none]) (fun r hr n => by
    have d2 := draw_lt r hp.1
    refine ⟨drawR r q, drawN r q, hr.draw hp.1, d2.1, d2.2, fun acc Kc => ?_⟩
    simp [ueV, r_draw hr hp.1 (show q < 1000 by omega), sizeLine_eq]) U1 [] r hr (by rw [sizeLine_eq]; simp; omega)
  obtain ⟨m1, m2, m3, m4⟩ := mkW_ok (q := q) pw [] (fun _ z => by cases z) .nil fun p hp => ⟨hU1 p.1 (by rw [← g2]; exact List.mem_map.mpr ⟨p, hp, rfl⟩), g3 p hp⟩
  have lpw : pw.length ≤ 8 := by rw [← names_len, g2]; exact lU1
  have hu : Can q (mkW [] pw) := ⟨m1, m2, by simp at m3; omega⟩
  have hsu : ∀ n ∈ U, n ∈ names (mkW [] pw) := fun n hn => m4 n (.inr (by rw [g2, eU1]; exact List.mem_append.mpr (.inl hn)))
  obtain ⟨r2, T, x5, k1, k2, k3, k4, e2⟩ := r_v_loop (C0 := C0) (XQ := XQ) (ps := ps) (u := mkW [] pw) hm hU hl g1
  rw [← eU2] at e2
  refine ⟨r2, k1, fun QO => ?_⟩
  rw [← eps]
  have dm := dict_mkW pw
  generalize mkW [] pw = u at *
  have shl : ∀ l : List Str, D.shallow (.lst (l.map .str)) = true := fun l => by
    show ((l.map D.str).all D.flat) = true
    simp
  have it1 : itemsA (.g (.lst (U1.map .str))) (U1.map .str) = U1.map fun n => .g (.str n) := items_str
  have it2 : itemsA (.g (.lst (U2.map .str))) (U2.map .str) = U2.map fun n => .g (.str n) := items_str
  have e1' := fun Q => e1 Q
  simp only [ueV] at e1'
  have e2' := e2
  simp only [usV] at e2'
  simp [t_law_values_right, u_law_values_right, cat1, sizeLine_eq, shl, -List.map_append]
  rw [it1, e1']
  simp [dm, cat2, shl, sizeLine_eq, -List.map_append]
  rw [it2]
  have e3 : ([some (.p (rgD r1)), some (.b (.lst (U.map .str))), some (.b ps), some (.b (.int q)), some (.o (.dic (toK u))), none, some (.o (.dic (toK u))), some (.o (.dic [])), some (.o (.dic [])), none, none] : Env') = envV C0 q U ps u r1 [] none := rfl
  rw [e3, e2']
  clear e1 e1' e2 e2'
  have lt : (litD (.dic (toK u))) = some (pairsD u) := litD_toK u
  have rv : revD (pairsD u) = some (.lst (u.reverse.map fun p => .tup [.str p.1, .int p.2])) := by
    show some (D.lst (u.map fun p => D.tup [.str p.1, .int p.2]).reverse) = _
    rw [List.map_reverse]
  have dr : dictD [.lst (u.reverse.map fun p => .tup [.str p.1, .int p.2])] = some (.dic (toK u.reverse)) := dict_pairs hu.rev.nd
  have fact : ∀ {w v : W} {c : Int} {f : Str → Int}, Pair U q w v c f →
      (∀ QR, t_Sum_at C0 noX [.ins C0 (fsS q w c), .dic (toK u)] QR = QR (.s (.int ((c + valW w u) % q)))) ∧
      (∀ QR, t_Sum_at C0 noX [.ins C0 (fsS q w c), .dic (toK u.reverse)] QR = QR (.s (.int ((c + valW w u) % q)))) ∧
      (∀ QR, t_law_value C0 noX [modD v c, .dic (toK u), .int q] QR = QR (.s (.int ((c + valW w u) % q)))) ∧
      (∀ QR, t_Sum_put C0 noX [.ins C0 (fsS q w c), .dic (sumsK C0 q T)] QR = QR (.o (.ins C0 (fsS q (w.foldl (putS q T) ([], c)).1 (w.foldl (putS q T) ([], c)).2)))) ∧
      (∀ QR, t_Sum_put C0 noX [.ins C0 (fsS q w c), .dic []] QR = QR (.o (.ins C0 (fsS q (w.foldl (putS q []) ([], c)).1 (w.foldl (putS q []) ([], c)).2)))) ∧
      (∀ QR, t_law_replaced C0 noX [modD v c, .dic (modsK T), .int q] QR = QR (.s (modD (v.foldl (repS q T) ([], c)).1 (v.foldl (repS q T) ([], c)).2))) ∧
      (∀ QR, t_law_tells C0 noX [.ins C0 (fsS q (w.foldl (putS q T) ([], c)).1 (w.foldl (putS q T) ([], c)).2), modD (v.foldl (repS q T) ([], c)).1 (v.foldl (repS q T) ([], c)).2, .int q] QR = QR (.s (.bl true))) ∧
      (∀ QR, t_law_tells C0 noX [.ins C0 (fsS q (w.foldl (putS q []) ([], c)).1 (w.foldl (putS q []) ([], c)).2), modD v c, .int q] QR = QR (.s (.bl true))) ∧
      (∀ QR, t_law_tells C0 noX [.ins C0 (fsS q w c), modD v c, .int q] QR = QR (.s (.bl true))) := fun {w v c f} p => by
    have cw := p.rw.can p.fn hU (by omega)
    have cv := p.rv.can p.fn hU (by omega)
    have sw : ∀ n ∈ names w, n ∈ names u := fun n hn => hsu n (p.nw n hn)
    have sv : ∀ n ∈ names v, n ∈ names u := fun n hn => hsu n (p.nv n hn)
    have ev : (valW v u + c) % q = (c + valW w u) % q := by rw [valW_lin, valW_lin, lin_perm p.perm, Int.add_comm]
    refine ⟨fun QR => r_at hm cw hu sw, fun QR => ?_, fun QR => ?_, fun QR => r_put hm hU (by omega) k2 cw p.nw p.c0 p.c1, fun QR => r_put (T := []) hm hU (by omega) tok_nil cw p.nw p.c0 p.c1,
      fun QR => r_replaced hm (by omega) k2 p.nv cv.ln p.c0 p.c1, fun QR => tells_put hm hU (by omega) k2 p, fun QR => tells_put0 hm hU (by omega) p, fun QR => tells_pair hU (by omega) p⟩
    · rw [r_at hm cw hu.rev fun n hn => (names_rev u n).mpr (sw n hn), valW_rev hu.nd]
    · rw [r_law_value hm cv hu.nd sv, ev]
  obtain ⟨a1, a2, a3, a4, a5, a6, a7, a8, a9⟩ := fact p
  obtain ⟨b1, b2, b3, b4, b5, b6, b7, b8, b9⟩ := fact p2
  have so1 : ∀ P, sortedR [.dic (sumsK C0 q T)] P = P (.lst ((sortS (T.map (·.1))).map .str)) := fun P => e_sortedD (keysS_T (fun t => .ins C0 (fsS q (nrm t.1) t.2)) T) (by rw [List.length_map]; exact k2.ln)
  have so2 : ∀ P, sortedR [.dic (modsK T)] P = P (.lst ((sortS (T.map (·.1))).map .str)) := fun P => e_sortedD (keysS_T (fun t => modD t.1 t.2) T) (by rw [List.length_map]; exact k2.ln)
  have eq1 : eqD (.lst ((sortS (T.map (·.1))).map .str)) (.lst ((sortS (T.map (·.1))).map .str)) = some (.bl true) := eqD_sh (sh_names fun n hn => by
    have := (sortS_perm _).mem_iff.mp hn
    obtain ⟨t, ht, rfl⟩ := List.mem_map.mp this
    exact k2.nm t ht) (by decide)
  have eq2 := eqD_toK hu.nd
  rw [eps]
  simp [-List.map_reverse, envV, pairD2, itemsA, e_loop1, e_loop0, npS_npC k4, lk_at, lk_put, flat_modD, a1, a2, a3, a4, a5, a6, a7, a8, a9, b1, b2, b3, b4, b5, b6, b7, b8, b9, lt, rv, dr, so1, so2, eq1, eq2]
end K11

set_option Elab.async false
set_option linter.all false
set_option maxRecDepth 100000
set_option maxHeartbeats 4000000
namespace K11
open PySem PySem.Spec L2 PyProof.Rows QD QD.Ev
/-- a turn of the law's loop -/
def usR (C0 : Addr) : US := (uSeq (uSet 11 (uLst (uCons (uGO (uTup (uCons (uGO (uVar 7)) (uCons (uGO (uVar 3)) uNil)))) (uCons (uGO (uTup (uCons (uGO (uVar 8)) (uCons (uGO (uVar 5)) uNil)))) (uCons (uGO (uTup (uCons (uGO (uOwB C0 [.b, .b] (t_Sum__add C0) (uVar 7) (uVar 8))) (uCons (uGO (uCall [.b, .b, .b, .b] (t_law_added C0) [] (uCons (uVar 3) (uCons (uVar 5) (uCons (uC (.int 1)) (uCons (uVar 1) uNil)))))) uNil)))) uNil)))))
    (uSeq (uSet 11 (uF2 catD (uVar 11) (uO (uLst (uCons (uGO (uTup (uCons (uGO (uOwB C0 [.b, .b] (t_Sum__sub C0) (uVar 7) (uVar 8))) (uCons (uGO (uCall [.b, .b, .b, .b] (t_law_added C0) [] (uCons (uVar 3) (uCons (uVar 5) (uCons (uO (uS1 negI (uC (.int 1)))) (uCons (uVar 1) uNil)))))) uNil)))) (uCons (uGO (uTup (uCons (uGO (uOwN C0 [.b] (t_Sum__neg C0) (uVar 7))) (uCons (uGO (uCall [.b, .b, .b, .b] (t_law_added C0) [] (uCons (uO (uTup (uCons (uGO uDic0) (uCons (uC (.int 0)) uNil)))) (uCons (uVar 3) (uCons (uO (uS1 negI (uC (.int 1)))) (uCons (uVar 1) uNil)))))) uNil)))) uNil))))))
    (uSeq (uSet 11 (uF2 catD (uVar 11) (uO (uComp (uItL (uEsc (uVar 9))) (gN 12) uYes (uG (uTup (uCons (uGO (uOwI C0 [.b, .b] (t_Sum__mul C0) (uVar 7) (uVar 12))) (uCons (uGO (uCall [.b, .b, .b, .b] (t_law_added C0) [] (uCons (uO (uTup (uCons (uGO uDic0) (uCons (uC (.int 0)) uNil)))) (uCons (uVar 3) (uCons (uVar 12) (uCons (uVar 1) uNil)))))) uNil)))) [12]))))
    (uSeq (uSet 11 (uF2 catD (uVar 11) (uO (uLst (uCons (uGO (uTup (uCons (uGO (uOwB C0 [.b, .b] (t_Sum__add C0) (uVar 7) (uVar 7))) (uCons (uGO (uCall [.b, .b, .b, .b] (t_law_added C0) [] (uCons (uVar 3) (uCons (uVar 3) (uCons (uC (.int 1)) (uCons (uVar 1) uNil)))))) uNil)))) (uCons (uGO (uTup (uCons (uGO (uOwB C0 [.b, .b] (t_Sum__sub C0) (uVar 8) (uVar 8))) (uCons (uGO (uTup (uCons (uGO uDic0) (uCons (uC (.int 0)) uNil)))) uNil)))) uNil))))))
    (uIfS (uNot (uB (uSn allD (uCons (uO (uComp (uItL (uEsc (uVar 11))) (gT (gsCons (gN 13) (gsCons (gN 14) gsNil)) 2) uYes (uG (uCall [.b, .b, .b] (t_law_tells C0) [] (uCons (uVar 13) (uCons (uVar 14) (uCons (uVar 1) uNil))))) [13, 14])) uNil)))) (uRet (uC (.bl false))) uNext)))))
def pd (C0 : Addr) (q : Int) (t : W × Int × W × Int) : D := .tup [.ins C0 (fsS q t.1 t.2.1), modD t.2.2.1 t.2.2.2]
def GoodP (U : List Str) (q : Int) (t : W × Int × W × Int) : Prop := (∃ f, Pair U q t.1 t.2.2.1 t.2.1 f) ∧ t.2.1 = t.2.2.2
section
variable {C0 : Addr} {XQ : XP} {q c c2 : Int} {w v w2 v2 : W} {U : List Str} {f f2 : Str → Int}
theorem Pair.can {U : List Str} {q c : Int} {w v : W} {f : Str → Int} (hU : ∀ n ∈ U, Nm n) (hl : U.length ≤ 6) (p : Pair U q w v c f) : Can q w := p.rw.can p.fn hU (by omega)
theorem good_add (hm : Md q) (hU : ∀ n ∈ U, Nm n) (hl : U.length ≤ 6) (p : Pair U q w v c f) (p2 : Pair U q w2 v2 c2 f2) :
    GoodP U q (nrm (w2.foldl (addW q) w), (c + c2) % q, addedW q 1 v v2, (c + 1 * c2) % q) := by
  have cw := p.can hU hl
  have c2 := p2.can hU hl
  have inv := add_inv hm w2 w cw.ok cw.nd c2.ok
  have r1 := rp_add (q := q) p.rw p2.rw inv.2.1 fun n => ⟨p.fn.b0 n, p.fn.b1 n⟩
  have r2 := rp_added (q := q) (b := 1) p.rv p2.rv
  have e : (fun n => (f n + 1 * f2 n) % q) = fun n => (f n + f2 n) % q := by funext n; rw [Int.one_mul]
  have fn := p.fn.add hm p2.fn 1
  rw [e] at r2 fn
  exact ⟨⟨_, r1, r2, srt_nrm _, fn, (mod_lt hm _).1, (mod_lt hm _).2⟩, by rw [Int.one_mul]⟩
theorem good_sub (hm : Md q) (hU : ∀ n ∈ U, Nm n) (hl : U.length ≤ 6) (p : Pair U q w v c f) (p2 : Pair U q w2 v2 c2 f2) :
    GoodP U q (nrm ((mulW q (-1) w2).foldl (addW q) w), (c + -c2) % q, addedW q (-1) v v2, (c + -1 * c2) % q) := by
  have cw := p.can hU hl
  have cw2 := p2.can hU hl
  have m := rp_mul (q := q) p2.rw (-1)
  have inv := add_inv hm (mulW q (-1) w2) w cw.ok cw.nd (cw2.mul hm (-1)).ok
  have r1 := rp_add (q := q) p.rw m inv.2.1 fun n => ⟨p.fn.b0 n, p.fn.b1 n⟩
  have r2 := rp_added (q := q) (b := -1) p.rv p2.rv
  have e : (fun n => (f n + f2 n * -1 % q) % q) = fun n => (f n + -1 * f2 n) % q := by funext n; rw [mod_step2, Int.mul_comm]
  rw [e] at r1
  exact ⟨⟨_, r1, r2, srt_nrm _, p.fn.add hm p2.fn (-1), (mod_lt hm _).1, (mod_lt hm _).2⟩, by rw [Int.neg_mul, Int.one_mul]⟩
theorem good_mul (hm : Md q) (p : Pair U q w v c f) (k : Int) : GoodP U q (mulW q k w, c * k % q, addedW q k [] v, (0 + k * c) % q) := by
  have m := rp_mul (q := q) p.rw k
  have r2 := rp_added (q := q) (b := k) rp_nil p.rv
  have e : (fun n => ((0 : Int) + k * f n) % q) = fun n => f n * k % q := by funext n; rw [Int.zero_add, Int.mul_comm]
  rw [e] at r2
  exact ⟨⟨_, m, r2, srt_nrm _, p.fn.mul hm k, (mod_lt hm _).1, (mod_lt hm _).2⟩, by rw [Int.zero_add, Int.mul_comm]⟩
theorem good_neg (hm : Md q) (p : Pair U q w v c f) : GoodP U q (mulW q (-1) w, -c % q, addedW q (-1) [] v, (0 + -1 * c) % q) := by
  have g := good_mul hm p (-1)
  have e : c * -1 = -c := by omega
  rw [e] at g; exact g
theorem good_zero (hm : Md q) (hU : ∀ n ∈ U, Nm n) (hl : U.length ≤ 6) (p : Pair U q w v c f) :
    GoodP U q (nrm ((mulW q (-1) w).foldl (addW q) w), (c + -c) % q, [], 0) := by
  have cw := p.can hU hl
  have m := rp_mul (q := q) p.rw (-1)
  have inv := add_inv hm (mulW q (-1) w) w cw.ok cw.nd (cw.mul hm (-1)).ok
  have r1 := rp_add (q := q) p.rw m inv.2.1 fun n => ⟨p.fn.b0 n, p.fn.b1 n⟩
  have e : (fun n => (f n + f n * -1 % q) % q) = fun n => 0 := by
    funext n
    rw [mod_step2]
    have : f n + f n * -1 = 0 := by omega
    rw [this]; simp
  rw [e] at r1
  have e2 : (c + -c) % q = 0 := by rw [Int.add_right_neg]; simp
  refine ⟨⟨_, r1, rp_nil, srt_nrm _, ⟨fun _ => Int.le_refl 0, fun _ => hm.pos.1, fun _ z => absurd rfl z⟩, (mod_lt hm _).1, (mod_lt hm _).2⟩, e2⟩
theorem good_self (p : Pair U q w v c f) : GoodP U q (w, c, v, c) := ⟨⟨_, p⟩, rfl⟩
end
end K11

set_option Elab.async false
set_option linter.all false
set_option maxRecDepth 100000
set_option maxHeartbeats 4000000
namespace K11
open PySem PySem.Spec L2 PyProof.Rows QD QD.Ev
def envR (C0 : Addr) (r : Rg) (q : Int) (U : List Str) (a b d e : D) (h2 : W) (x9 x10 x11 : Option C) : Env' := [some (.p (rgD r)), some (.g (.int q)), some (.o (.lst (U.map .str))), some (.g a), some (.o (.dic [])), some (.g b), some (.o (.dic (toK h2))), some (.g d), some (.g e), x9, x10, x11, none, none, none]
def mulP (C0 : Addr) (q : Int) (w v : W) (c : Int) (k : Int) : W × Int × W × Int := (mulW q k w, c * k % q, addedW q k [] v, (0 + k * c) % q)
def mulA (C0 : Addr) (q : Int) (w v : W) (c : Int) (a : A) : D := match a with
  | .g (.int k) => pd C0 q (mulP C0 q w v c k)
  | _ => .non
def tellA (_ : A) : D := .bl true
theorem catD_eq {xs ys : List D} (h : xs.length + ys.length ≤ 16777216) : catD (.lst xs) (.lst ys) = some (.lst (xs ++ ys)) := if_pos (by rw [sizeLine_eq]; exact h)
theorem r_turn {C0 : Addr} {XQ : XP} {q c c2 : Int} {w v w2 v2 h2 : W} {U : List Str} {f f2 : Str → Int} {r : Rg} {ks : List Int} {x9 x10 x11 : Option C} (hm : Md q) (hU : ∀ n ∈ U, Nm n) (hl : U.length ≤ 6) (p : Pair U q w v c f) (p2 : Pair U q w2 v2 c2 f2)
    (hk : ks.length = 5) (h9 : x9 = some (.o (.lst (ks.map .int))) ∨ x9 = some (.g (.lst (ks.map .int)))) (h10 : npS x10) (h11 : npS x11) (i : Int) :
    ∃ P : D, ∀ (DD : ED) (N : Env' → Prop), gN 10 (envR C0 r q U (modD v c) (modD v2 c2) (.ins C0 (fsS q w c)) (.ins C0 (fsS q w2 c2)) h2 x9 x10 x11) (.g (.int i)) (kLp (usR C0) XQ N DD) =
      N (envR C0 r q U (modD v c) (modD v2 c2) (.ins C0 (fsS q w c)) (.ins C0 (fsS q w2 c2)) h2 (some (.g (.lst (ks.map .int)))) (some (.g (.int i))) (some (.g P))) := by
  have hp := hm.pos
  have cw := p.can hU hl
  have cv := p2.can hU hl
  have l1 := p.rw.len p.fn
  have l2 := p2.rw.len p2.fn
  have fz : Fn U q fun _ => 0 := ⟨fun _ => Int.le_refl 0, fun _ => hp.1, fun _ z => absurd rfl z⟩
  have a1 := fun QR => r_add (C0 := C0) (XQ := noX) (c := c) (c2 := c2) (QR := QR) hm cw cv (by omega)
  have a2 := fun QR => r_added (C0 := C0) (XQ := noX) (b := 1) (c := c) (QR := QR) hm p.rv p2.rv p.fn p2.fn (by omega) p2.c0 p2.c1
  have b1 := fun QR => r_sub (C0 := C0) (XQ := noX) (c := c) (c2 := c2) (QR := QR) hm cw cv (by omega) p2.c0 p2.c1
  have b2 := fun QR => r_added (C0 := C0) (XQ := noX) (b := -1) (c := c) (QR := QR) hm p.rv p2.rv p.fn p2.fn (by omega) p2.c0 p2.c1
  have d1 := fun QR => r_neg (C := C0) (XQ := noX) (QR := QR) hm cw p.c0 p.c1
  have d2 := fun QR => r_added (C0 := C0) (XQ := noX) (b := -1) (c := 0) (QR := QR) hm rp_nil p.rv fz p.fn (by omega) p.c0 p.c1
  have e1 := fun k QR => r_mul (C := C0) (XQ := noX) (k := k) (QR := QR) hm cw p.c0 p.c1
  have e2 := fun k QR => r_added (C0 := C0) (XQ := noX) (b := k) (c := 0) (QR := QR) hm rp_nil p.rv fz p.fn (by omega) p.c0 p.c1
  have g1 := fun QR => r_add (C0 := C0) (XQ := noX) (c := c) (c2 := c) (QR := QR) hm cw cw (by omega)
  have g2 := fun QR => r_added (C0 := C0) (XQ := noX) (b := 1) (c := c) (QR := QR) hm p.rv p.rv p.fn p.fn (by omega) p.c0 p.c1
  have h1 := fun QR => r_sub (C0 := C0) (XQ := noX) (c := c2) (c2 := c2) (QR := QR) hm cv cv (by omega) p2.c0 p2.c1
  have mn : modD [] 0 = .tup [.dic [], .int 0] := rfl
  rw [mn] at d2 e2
  have mk : ∀ (x : Option C) acc Kc a, a ∈ (ks.map fun k => A.g (.int k)) → gN 12 (envR C0 r q U (modD v c) (modD v2 c2) (.ins C0 (fsS q w c)) (.ins C0 (fsS q w2 c2)) h2 (some (.g (.lst (ks.map .int)))) (some (.g (.int i))) x) a (kCI1 uYes (uG (uTup (uCons (uGO (uOwI C0 [.b, .b] (t_Sum__mul C0) (uVar 7) (uVar 12))) (uCons (uGO (uCall [.b, .b, .b, .b] (t_law_added C0) [] (uCons (uO (uTup (uCons (uGO uDic0) (uCons (uC (.int 0)) uNil)))) (uCons (uVar 3) (uCons (uVar 12) (uCons (uVar 1) uNil)))))) uNil)))) [12] XQ acc Kc) =
      (acc.length < sizeLine ∧ Kc (acc ++ [mulA C0 q w v c a]) (envR C0 r q U (modD v c) (modD v2 c2) (.ins C0 (fsS q w c)) (.ins C0 (fsS q w2 c2)) h2 (some (.g (.lst (ks.map .int)))) (some (.g (.int i))) x)) := fun x acc Kc a ha => by
    obtain ⟨k, _, rfl⟩ := List.mem_map.mp ha
    simp [envR, e1, e2, sizeLine_eq, mulA, pd, mulP]
  obtain ⟨PL, ePL⟩ : ∃ PL : List (W × Int × W × Int), PL = [(w, c, v, c), (w2, c2, v2, c2), (nrm (w2.foldl (addW q) w), (c + c2) % q, addedW q 1 v v2, (c + c2) % q), (nrm ((mulW q (-1) w2).foldl (addW q) w), (c + -c2) % q, addedW q (-1) v v2, (c + -c2) % q), (mulW q (-1) w, -c % q, addedW q (-1) [] v, -c % q)]
    ++ (ks.map (mulP C0 q w v c) ++ [(nrm (w.foldl (addW q) w), (c + c) % q, addedW q 1 v v, (c + c) % q), (nrm ((mulW q (-1) w2).foldl (addW q) w2), (c2 + -c2) % q, [], 0)]) := ⟨_, rfl⟩
  have gPL : ∀ t ∈ PL, GoodP U q t := fun t ht => by
    rw [ePL] at ht
    rcases List.mem_append.mp ht with z | z
    · simp at z
      rcases z with rfl | rfl | rfl | rfl | rfl
      · exact good_self p
      · exact good_self p2
      · have := good_add hm hU hl p p2
        rwa [Int.one_mul] at this
      · have := good_sub hm hU hl p p2
        rwa [Int.neg_mul, Int.one_mul] at this
      · have := good_neg hm p
        rwa [Int.neg_mul, Int.one_mul, Int.zero_add] at this
    · rcases List.mem_append.mp z with z | z
      · obtain ⟨k, _, rfl⟩ := List.mem_map.mp z
        exact good_mul hm p k
      · simp at z
        rcases z with rfl | rfl
        · have := good_add hm hU hl p p
          rwa [Int.one_mul] at this
        · exact good_zero hm hU hl p2
  have eL : D.tup [D.ins C0 (fsS q w c), modD v c] ::
                D.tup [D.ins C0 (fsS q w2 c2), modD v2 c2] ::
                  D.tup
                      [D.ins C0 (fsS q (nrm (List.foldl (addW q) w w2)) ((c + c2) % q)),
                        modD (addedW q 1 v v2) ((c + c2) % q)] ::
                    D.tup
                        [D.ins C0 (fsS q (nrm (List.foldl (addW q) w (mulW q (-1) w2))) ((c + -c2) % q)),
                          modD (addedW q (-1) v v2) ((c + -c2) % q)] ::
                      D.tup [D.ins C0 (fsS q (mulW q (-1) w) (-c % q)), modD (addedW q (-1) [] v) (-c % q)] ::
                        (List.map (pd C0 q) (List.map (mulP C0 q w v c) ks) ++
                          [D.tup
                              [D.ins C0 (fsS q (nrm (List.foldl (addW q) w w)) ((c + c) % q)),
                                modD (addedW q 1 v v) ((c + c) % q)],
                            D.tup
                              [D.ins C0 (fsS q (nrm (List.foldl (addW q) w2 (mulW q (-1) w2))) ((c2 + -c2) % q)),
                                D.tup [D.dic [], D.int 0]]]) = PL.map (pd C0 q) := by rw [ePL, List.map_append, List.map_append]; rfl
  have lPL : PL.length = 12 := by rw [ePL]; simp [hk]
  refine ⟨.lst (PL.map (pd C0 q)), fun DD N => ?_⟩
  have itk : itemsA (.g (.lst (ks.map .int))) (ks.map .int) = ks.map fun k => A.g (.int k) := by unfold itemsA; rw [List.map_map]; rfl
  have fl : ∀ (v : W) (c : Int), D.flat (modD v c) = false := flat_modD
  rcases h9 with rfl | rfl
  · simp [envR, usR, npS_npC h10, npS_npC h11, a1, a2, b1, b2, d1, d2, sizeLine_eq, catD_eq]
    rw [itk]
    have mk := mk (some (.o (.lst [D.tup [D.ins C0 (fsS q w c), modD v c], D.tup [D.ins C0 (fsS q w2 c2), modD v2 c2], D.tup [D.ins C0 (fsS q (nrm (List.foldl (addW q) w w2)) ((c + c2) % q)), modD (addedW q 1 v v2) ((c + c2) % q)], D.tup [D.ins C0 (fsS q (nrm (List.foldl (addW q) w (mulW q (-1) w2))) ((c + -c2) % q)), modD (addedW q (-1) v v2) ((c + -c2) % q)], D.tup [D.ins C0 (fsS q (mulW q (-1) w) (-c % q)), modD (addedW q (-1) [] v) (-c % q)]])))
    simp only [envR] at mk
    rw [comp_map (mulA C0 q w v c) (ks.map fun k => A.g (.int k)) [] (fun a ha acc Kc => mk acc Kc a ha) (by rw [sizeLine_eq]; simp [hk])]
    have mm : (ks.map fun k => A.g (.int k)).map (mulA C0 q w v c) = (ks.map (mulP C0 q w v c)).map (pd C0 q) := by rw [List.map_map, List.map_map]; rfl
    rw [mm]
    simp [-List.map_map, catD_eq, hk, g1, g2, h1, sizeLine_eq]
    rw [eL]
    rw [comp_map tellA (itemsA (.g (.lst (PL.map (pd C0 q)))) (PL.map (pd C0 q))) [] (fun a ha acc Kc => ?_) ?_]
    · have al : allD [.lst ((itemsA (.g (.lst (PL.map (pd C0 q)))) (PL.map (pd C0 q))).map tellA)] = some (.bl true) := all_true _
      simp [al]
    · rw [sizeLine_eq]; simp [itemsA, lPL]
    · unfold itemsA at ha
      rw [List.map_map] at ha
      obtain ⟨t, ht, rfl⟩ := List.mem_map.mp ha
      obtain ⟨⟨g, gp⟩, ge⟩ := gPL t ht
      have te := fun QR => tells_pair (C0 := C0) (XQ := noX) (QR := QR) hU (by omega) gp
      simp [pd, tellA, ← ge, te]
  · simp [envR, usR, npS_npC h10, npS_npC h11, a1, a2, b1, b2, d1, d2, sizeLine_eq, catD_eq]
    rw [itk]
    have mk := mk (some (.o (.lst [D.tup [D.ins C0 (fsS q w c), modD v c], D.tup [D.ins C0 (fsS q w2 c2), modD v2 c2], D.tup [D.ins C0 (fsS q (nrm (List.foldl (addW q) w w2)) ((c + c2) % q)), modD (addedW q 1 v v2) ((c + c2) % q)], D.tup [D.ins C0 (fsS q (nrm (List.foldl (addW q) w (mulW q (-1) w2))) ((c + -c2) % q)), modD (addedW q (-1) v v2) ((c + -c2) % q)], D.tup [D.ins C0 (fsS q (mulW q (-1) w) (-c % q)), modD (addedW q (-1) [] v) (-c % q)]])))
    simp only [envR] at mk
    rw [comp_map (mulA C0 q w v c) (ks.map fun k => A.g (.int k)) [] (fun a ha acc Kc => mk acc Kc a ha) (by rw [sizeLine_eq]; simp [hk])]
    have mm : (ks.map fun k => A.g (.int k)).map (mulA C0 q w v c) = (ks.map (mulP C0 q w v c)).map (pd C0 q) := by rw [List.map_map, List.map_map]; rfl
    rw [mm]
    simp [-List.map_map, catD_eq, hk, g1, g2, h1, sizeLine_eq]
    rw [eL]
    rw [comp_map tellA (itemsA (.g (.lst (PL.map (pd C0 q)))) (PL.map (pd C0 q))) [] (fun a ha acc Kc => ?_) ?_]
    · have al : allD [.lst ((itemsA (.g (.lst (PL.map (pd C0 q)))) (PL.map (pd C0 q))).map tellA)] = some (.bl true) := all_true _
      simp [al]
    · rw [sizeLine_eq]; simp [itemsA, lPL]
    · unfold itemsA at ha
      rw [List.map_map] at ha
      obtain ⟨t, ht, rfl⟩ := List.mem_map.mp ha
      obtain ⟨⟨g, gp⟩, ge⟩ := gPL t ht
      have te := fun QR => tells_pair (C0 := C0) (XQ := noX) (QR := QR) hU (by omega) gp
      simp [pd, tellA, ← ge, te]
end K11

set_option Elab.async false
set_option linter.all false
set_option maxRecDepth 100000
set_option maxHeartbeats 4000000
namespace K11
open PySem PySem.Spec L2 PyProof.Rows QD QD.Ev
theorem md_at {i : Int} (h0 : 0 ≤ i) (h1 : i < 6) : ∃ q : Int, Md q ∧ atI [D.int 2, D.int 3, D.int 5, D.int 7, D.int 11, D.int 13] i = some (.int q) := by
  have : i = 0 ∨ i = 1 ∨ i = 2 ∨ i = 3 ∨ i = 4 ∨ i = 5 := by omega
  rcases this with rfl | rfl | rfl | rfl | rfl | rfl
  · exact ⟨2, .inl rfl, rfl⟩
  · exact ⟨3, .inr (.inl rfl), rfl⟩
  · exact ⟨5, .inr (.inr (.inl rfl)), rfl⟩
  · exact ⟨7, .inr (.inr (.inr (.inl rfl))), rfl⟩
  · exact ⟨11, .inr (.inr (.inr (.inr (.inl rfl)))), rfl⟩
  · exact ⟨13, .inr (.inr (.inr (.inr (.inr rfl)))), rfl⟩
theorem dr_pair {U : List Str} {q c : Int} {h : W} (hm : Md q) (d : Dr q U h) (c0 : 0 ≤ c) (c1 : c < q) : Pair U q (nrm h) (nz h) c (getW h) := by
  have fn := dr_fn hm d
  have e : getW (nz h) = getW h := by funext n; exact getW_nz d.nd n
  rw [e] at fn
  exact ⟨rp_nrm d.nd, rp_nz d.nd, srt_nrm _, fn, c0, c1⟩
theorem dr_pairR {U : List Str} {q c : Int} {h : W} (hm : Md q) (d : Dr q U h) (c0 : 0 ≤ c) (c1 : c < q) : Pair U q (nrm h.reverse) (nz h) c (getW h) := by
  have p := dr_pair hm d c0 c1
  have nr : (names h.reverse).Nodup := by unfold names; rw [List.map_reverse]; exact (List.reverse_perm _).nodup_iff.mpr d.nd
  have r := rp_nrm nr
  have e : getW h.reverse = getW h := by funext n; exact getW_rev d.nd n
  rw [e] at r
  exact ⟨r, p.rv, srt_nrm _, p.fn, c0, c1⟩
theorem r_right {C0 : Addr} {XQ : XP} {r : Rg} (hr : r.Ok) : ∃ r' : Rg, r'.Ok ∧ ∀ QO, t_law_right C0 XQ (rgD r) [] QO = QO (rgD r') (.s (.bl true)) := by
  have d1 := draw_lt r (m := 6) (by decide)
  have k1 := hr.draw (m := 6) (by decide)
  obtain ⟨q, hm, eq⟩ := md_at d1.1 d1.2
  have hp := hm.pos
  have d2 := draw_lt (drawR r 6) (m := 6) (by decide)
  have k2 := k1.draw (m := 6) (by decide)
  obtain ⟨r3, U, k3, hU, ndU, lU, e3⟩ := r_some_names (C0 := C0) (XQ := noX) (m := 1 + drawN (drawR r 6) 6) k2 (by omega) (by omega)
  obtain ⟨r4, h1, c1, k4, dr1, c10, c11, e4⟩ := r_drawnM (C0 := C0) (XQ := noX) (q := q) hm hU (by omega) k3
  obtain ⟨r5, h2, c2, k5, dr2, c20, c21, e5⟩ := r_drawnM (C0 := C0) (XQ := noX) (q := q) hm hU (by omega) k4
  have m3 : (0 : Int) < 3 := by decide
  have m99 : (0 : Int) < 99 := by decide
  have k6 := k5.draw hp.1
  have k7 := k6.draw m3
  have k8 := k7.draw m99
  have k9 := k8.draw m99
  have p1 := dr_pair hm dr1 c10 c11
  have p2 := dr_pairR hm dr2 c20 c21
  obtain ⟨r6, k10, e6⟩ := r_values_right (C0 := C0) (XQ := noX) hm hU lU p1 p2 k9
  refine ⟨r6, k10, fun QO => ?_⟩
  have ln1 : h1.length < 64 := by have := dr1.ln; omega
  have ln2 : h2.reverse.length < 64 := by have := dr2.ln; rw [List.length_reverse]; omega
  have i1 : ∀ {QO}, t_Sum__init C0 noX (.ins C0 []) [.int q, .dic (toK h1), .int c1] QO = QO (.ins C0 (fsS q (nrm h1) c1)) (.s .non) := fun {QO} => by
    have := r_init (C := C0) (XQ := noX) (QO := QO) hm dr1.can dr1.nd ln1 c10 c11
    exact this
  have w2 : Wok q h2.reverse := fun p hp => dr2.can p (List.mem_reverse.mp hp)
  have n2 : (names h2.reverse).Nodup := by unfold names; rw [List.map_reverse]; exact (List.reverse_perm _).nodup_iff.mpr dr2.nd
  have i2 : ∀ {QO}, t_Sum__init C0 noX (.ins C0 []) [.int q, .dic (toK h2.reverse), .int c2] QO = QO (.ins C0 (fsS q (nrm h2.reverse) c2)) (.s .non) := fun {QO} => by
    have := r_init (C := C0) (XQ := noX) (QO := QO) hm w2 n2 ln2 c20 c21
    exact this
  have lt : (litD (.dic (toK h2))) = some (pairsD h2) := litD_toK h2
  have rv : revD (pairsD h2) = some (.lst (h2.reverse.map fun p => .tup [.str p.1, .int p.2])) := by
    show some (D.lst (h2.map fun p => D.tup [.str p.1, .int p.2]).reverse) = _
    rw [List.map_reverse]
  have dr : dictD [.lst (h2.reverse.map fun p => .tup [.str p.1, .int p.2])] = some (.dic (toK h2.reverse)) := dict_pairs n2
  have tm : ∀ (w : W) (c : Int) (d : D), tupI 1 (.g d) (some (modD w c)) = some (.g (.int c)) := fun _ _ _ => rfl
  have pw1 : powI (.int 10) (.int 24) = some (.int (10 ^ 24)) := powI_eq (by decide)
  have pw2 : powI (.int 10) (.int 9) = some (.int (10 ^ 9)) := powI_eq (by decide)
  simp [-List.map_reverse, t_law_right, u_law_right, r_draw hr (show (0 : Int) < 6 by decide) (by decide), eq, r_draw k1 (show (0 : Int) < 6 by decide) (by decide), e3, e4, e5, sizeLine_eq, tm, i1, i2, lt, rv, dr,
    r_draw k5 hp.1 (show q < 1000 by omega), r_draw k6 m3 (by decide), r_draw k7 m99 (by decide), r_draw k8 m99 (by decide), pw1, pw2]
  obtain ⟨ks, eks⟩ : ∃ ks : List Int, ks = [drawN r5 q, -1 - drawN (drawR r5 q) 3, 1000000000000000000000000 + drawN (drawR (drawR r5 q) 3) 99, -1000000000 - drawN (drawR (drawR (drawR r5 q) 3) 99) 99, 0] := ⟨_, rfl⟩
  have lk : ks.length = 5 := by rw [eks]; rfl
  have e0 : ([some (.p (rgD (drawR (drawR (drawR (drawR r5 q) 3) 99) 99))), some (.g (.int q)), some (.o (.lst (U.map .str))), some (.g (modD (nz h1) c1)), some (.o (.dic [])), some (.g (modD (nz h2) c2)), some (.o (.dic (toK h2))), some (.g (.ins C0 (fsS q (nrm h1) c1))), some (.g (.ins C0 (fsS q (nrm h2.reverse) c2))),
      some (.o (.lst [.int (drawN r5 q), .int (-1 - drawN (drawR r5 q) 3), .int (1000000000000000000000000 + drawN (drawR (drawR r5 q) 3) 99), .int (-1000000000 - drawN (drawR (drawR (drawR r5 q) 3) 99) 99), .int 0])), none, none, none, none, none] : Env') =
      envR C0 (drawR (drawR (drawR (drawR r5 q) 3) 99) 99) q U (modD (nz h1) c1) (modD (nz h2) c2) (.ins C0 (fsS q (nrm h1) c1)) (.ins C0 (fsS q (nrm h2.reverse) c2)) h2 (some (.o (.lst (ks.map .int)))) none none := by rw [eks]; rfl
  rw [e0]
  obtain ⟨P1, t1⟩ := r_turn (C0 := C0) (XQ := XQ) (h2 := h2) (r := drawR (drawR (drawR (drawR r5 q) 3) 99) 99) (x9 := some (.o (.lst (ks.map .int)))) (x10 := none) (x11 := none) hm hU lU p1 p2 lk (.inl rfl) npS_none npS_none 0
  obtain ⟨P2, t2⟩ := r_turn (C0 := C0) (XQ := XQ) (h2 := h2) (r := drawR (drawR (drawR (drawR r5 q) 3) 99) 99) (x9 := some (.g (.lst (ks.map .int)))) (x10 := some (.g (.int 0))) (x11 := some (.g P1)) hm hU lU p1 p2 lk (.inr rfl) npS_g npS_g 1
  simp only [usR] at t1 t2
  have r2 : rangeA 0 2 = [.g (.int 0), .g (.int 1)] := rfl
  rw [r2, e_loop1, t1, e_loop1, t2, e_loop0]
  have e6 := fun QO => e6 QO
  simp only [pairD2] at e6
  simp [envR, flat_modD, sizeLine_eq, e6]

end K11

set_option Elab.async false
set_option linter.all false
set_option maxRecDepth 100000
set_option maxHeartbeats 4000000
namespace K11
open PySem PySem.Spec L2 PyProof.Rows QD QD.Ev
def usI (C0 : Addr) : US := (uIfS (uNot (uB (uCallO 2 [] (t_law_right C0) [] (uCons (uVar 2) uNil)))) (uRet (uC (.bl false))) uNext)
def usO (C0 : Addr) : US := (uSeq (uSet 2 (uCall [.b, .b] (t_law_rng C0) [] (uCons (uVar 0) (uCons (uVar 1) uNil))))
    (uFor (uRng1 (uCons (uC (.int 3)) uNil)) (gN 3) (usI C0)))
def envK (ns : List Int) (x1 x2 x3 : Option C) : Env' := [some (.g (.lst (ns.map .int))), x1, x2, x3]
theorem r_inner {C0 : Addr} {XQ : XP} {ns : List Int} {x1 x3 : Option C} {r : Rg} (hr : r.Ok) (n3 : npS x3) (i : Int) : ∃ r' : Rg, r'.Ok ∧ ∀ (DD : ED) N, gN 3 (envK ns x1 (some (.o (rgD r))) x3) (.g (.int i)) (kLp (usI C0) XQ N DD) = N (envK ns x1 (some (.o (rgD r'))) (some (.g (.int i)))) := by
  obtain ⟨r1, k1, e1⟩ := r_right (C0 := C0) (XQ := noX) hr
  refine ⟨r1, k1, fun DD N => ?_⟩
  simp [usI, envK, npS_npC n3, e1]
theorem r_outer {C0 : Addr} {XQ : XP} {ns : List Int} {x1 x2 x3 : Option C} (n1 : npS x1) (n2 : npS x2) (n3 : npS x3) (k : Int) (h0 : 0 ≤ k) (h1 : k < 3) : ∃ r' : Rg, ∀ (N : Env' → Prop) (DD : ED), gN 1 (envK ns x1 x2 x3) (.g (.int k)) (kLp (usO C0) XQ N DD) = N (envK ns (some (.g (.int k))) (some (.o (rgD r'))) (some (.g (.int 2)))) := by
  obtain ⟨r, hr, e⟩ := r_rng (C := C0) (XQ := noX) (ns := ns) (QR := fun _ => True) h0 h1
  obtain ⟨r1, k1, e1⟩ := r_inner (C0 := C0) (XQ := XQ) (ns := ns) (x1 := some (.g (.int k))) (x3 := x3) hr n3 0
  obtain ⟨r2, k2, e2⟩ := r_inner (C0 := C0) (XQ := XQ) (ns := ns) (x1 := some (.g (.int k))) (x3 := some (.g (.int 0))) k1 npS_g 1
  obtain ⟨r3, k3, e3⟩ := r_inner (C0 := C0) (XQ := XQ) (ns := ns) (x1 := some (.g (.int k))) (x3 := some (.g (.int 1))) k2 npS_g 2
  refine ⟨r3, fun N DD => ?_⟩
  have r3' : rangeA 0 3 = [.g (.int 0), .g (.int 1), .g (.int 2)] := rfl
  simp [usO, envK, npS_npC n1, npS_npC n2, e, r3']
  have e0 : ([some (.g (.lst (ns.map .int))), some (.g (.int k)), some (.o (rgD r)), x3] : Env') = envK ns (some (.g (.int k))) (some (.o (rgD r))) x3 := rfl
  rw [e0, e_loop1, e1, e_loop1, e2, e_loop1, e3, e_loop0]
  rfl
theorem r_law {C0 : Addr} {XQ : XP} {ns : List Int} {QR : R → Prop} : t_law C0 XQ [.lst (ns.map .int)] QR = QR (.s (.bl true)) := by
  have hm : ∃ m : Int, 1 ≤ m ∧ m ≤ 3 ∧ (if (if (ns.length : Int) < 3 then (ns.length : Int) else 3) > 1 then (if (ns.length : Int) < 3 then (ns.length : Int) else 3) else 1) = m := ⟨_, by split <;> omega, by split <;> (split <;> omega), rfl⟩
  obtain ⟨m, m1, m2, em⟩ := hm
  obtain ⟨L', ⟨x1, x2, x3, k1, k2, k3, rfl⟩, e⟩ := loop_ex (wt := gN 1) (us := usO C0) (XQ := XQ)
    (fun _ L => ∃ x1 x2 x3, npS x1 ∧ npS x2 ∧ npS x3 ∧ L = envK ns x1 x2 x3) (rangeA 0 m.toNat) 0 (envK ns none none none) (by
      rintro j L a ⟨x1, x2, x3, k1, k2, k3, rfl⟩ ha
      obtain ⟨i, hi, rfl⟩ := List.mem_map.mp ha
      have hi := List.mem_range.mp hi
      obtain ⟨r', e⟩ := r_outer (C0 := C0) (XQ := XQ) (ns := ns) k1 k2 k3 (0 + (i : Nat)) (by omega) (by omega)
      exact ⟨_, ⟨_, _, _, npS_g, (fun _ z => by cases z), npS_g, rfl⟩, e⟩) ⟨none, none, none, npS_none, npS_none, npS_none, rfl⟩
  simp only [usO, usI] at e
  have b1 : -4611686018427387904 ≤ m := by omega
  have b2 : m < 4611686018427387904 := by omega
  have mx : maxD [.int 1, .int (if (ns.length : Int) < 3 then (ns.length : Int) else 3)] = some (.int m) := by rw [f_maxD, em]
  simp [-f_maxD, t_law, u_law, mx, b1, b2]
  have e0 : ([some (.g (.lst (ns.map .int))), none, none, none] : Env') = envK ns none none none := rfl
  rw [e0, e]
  simp
end K11

set_option Elab.async false
set_option linter.all false
set_option maxRecDepth 100000
set_option maxHeartbeats 0
namespace K11
open PySem PySem.Spec L2 PyProof.Rows QD
abbrev Rw : PySem.W.OpenRow := PySem.W.OpenLaw.row PySem.Challenge.rw_quietshares_k11_sums_by_numbers
def fb : List QH.Fb := [.a (.glo "is_integer"),
  .a (.glo "is_number"),
  .a (.glo "is_name"),
  .a (.glo "is_world"),
  .a (.glo "is_sum"),
  .a (.glo "want_modulus"),
  .a (.glo "_law_rng"),
  .a (.glo "_law_draw"),
  .a (.glo "_law_some_names"),
  .a (.glo "_law_added"),
  .a (.glo "_law_replaced"),
  .a (.glo "_law_value"),
  .a (.glo "_law_tells"),
  .a (.glo "_law_drawn"),
  .a (.glo "_law_values_right"),
  .a (.glo "_law_right"),
  .a (.glo "law"),
  .a (.glo "Sum"),
  .clsF "Sum",
  .sf "Sum",
  .a (.noat "Sum" "own_modulus"),
  .a (.noat "Sum" "own_weights"),
  .a (.noat "Sum" "own_constant"),
  .a (.mkr "Sum"),
  .prp "Sum" "modulus",
  .prp "Sum" "constant",
  .prp "Sum" "is_constant",
  .a (.meth "Sum" "weights"),
  .a (.meth "Sum" "names"),
  .a (.meth "Sum" "weight"),
  .a (.meth "Sum" "want_alike"),
  .a (.meth "Sum" "__mul__"),
  .a (.meth "Sum" "__neg__"),
  .a (.meth "Sum" "__add__"),
  .a (.meth "Sum" "__sub__"),
  .a (.meth "Sum" "at"),
  .a (.meth "Sum" "put"),
  .owI "Sum" .Mult,
  .a (.glo "MODULI"),
  .tup "MODULI" (([2, 3, 5, 7, 11, 13] : List Int).map .int),
  .a (.str "LETTERS" lettersS),
  .a (.str "NAME_SIGNS" signsS),
  .a (.int "LONGEST_NAME" 12),
  .a (.free "isinstance"),
  .a (.free "int"),
  .a (.free "bool"),
  .a (.free "str"),
  .a (.free "dict"),
  .a (.free "list"),
  .a (.free "len"),
  .a (.free "all"),
  .a (.free "sum"),
  .a (.free "sorted"),
  .a (.free "range"),
  .a (.free "max"),
  .a (.free "min"),
  .a (.free "abs"),
  .a (.free "divmod")]
def fn : List QH.DefQ := [⟨.glo "is_integer", "is_integer", "is_integer", st_is_integer, []⟩,
  ⟨.glo "is_number", "is_number", "is_number", st_is_number, []⟩,
  ⟨.glo "is_name", "is_name", "is_name", st_is_name, []⟩,
  ⟨.glo "is_world", "is_world", "is_world", st_is_world, []⟩,
  ⟨.glo "is_sum", "is_sum", "is_sum", st_is_sum, []⟩,
  ⟨.glo "want_modulus", "want_modulus", "want_modulus", st_want_modulus, []⟩,
  ⟨.met "Sum" "__init__", "__init__", "Sum.__init__", st_Sum__init, [.int 0]⟩,
  ⟨.prp "Sum" "modulus", "modulus", "Sum.modulus", st_Sum_modulus, []⟩,
  ⟨.prp "Sum" "constant", "constant", "Sum.constant", st_Sum_constant, []⟩,
  ⟨.prp "Sum" "is_constant", "is_constant", "Sum.is_constant", st_Sum_is_constant, []⟩,
  ⟨.met "Sum" "weights", "weights", "Sum.weights", st_Sum_weights, []⟩,
  ⟨.met "Sum" "names", "names", "Sum.names", st_Sum_names, []⟩,
  ⟨.met "Sum" "weight", "weight", "Sum.weight", st_Sum_weight, []⟩,
  ⟨.met "Sum" "want_alike", "want_alike", "Sum.want_alike", st_Sum_want_alike, []⟩,
  ⟨.met "Sum" "__mul__", "__mul__", "Sum.__mul__", st_Sum__mul, []⟩,
  ⟨.met "Sum" "__neg__", "__neg__", "Sum.__neg__", st_Sum__neg, []⟩,
  ⟨.met "Sum" "__add__", "__add__", "Sum.__add__", st_Sum__add, []⟩,
  ⟨.met "Sum" "__sub__", "__sub__", "Sum.__sub__", st_Sum__sub, []⟩,
  ⟨.met "Sum" "at", "at", "Sum.at", st_Sum_at, []⟩,
  ⟨.met "Sum" "put", "put", "Sum.put", st_Sum_put, []⟩,
  ⟨.glo "_law_rng", "_law_rng", "_law_rng", st_law_rng, []⟩,
  ⟨.glo "_law_draw", "_law_draw", "_law_draw", st_law_draw, []⟩,
  ⟨.glo "_law_some_names", "_law_some_names", "_law_some_names", st_law_some_names, []⟩,
  ⟨.glo "_law_added", "_law_added", "_law_added", st_law_added, []⟩,
  ⟨.glo "_law_replaced", "_law_replaced", "_law_replaced", st_law_replaced, []⟩,
  ⟨.glo "_law_value", "_law_value", "_law_value", st_law_value, []⟩,
  ⟨.glo "_law_tells", "_law_tells", "_law_tells", st_law_tells, []⟩,
  ⟨.glo "_law_drawn", "_law_drawn", "_law_drawn", st_law_drawn, []⟩,
  ⟨.glo "_law_values_right", "_law_values_right", "_law_values_right", st_law_values_right, []⟩,
  ⟨.glo "_law_right", "_law_right", "_law_right", st_law_right, []⟩,
  ⟨.glo "law", "law", "law", st_law, []⟩]
def loose0 : List Str := ["_wall", "__name__", "QuietsharesError", "InvalidModulus", "InvalidNumber", "InvalidWeights", "InvalidSum", "InvalidWorld", "OtherModulus", "MissingNumber", "MODULI", "LETTERS", "NAME_SIGNS", "LONGEST_NAME", "is_integer", "is_number", "is_name", "is_world", "is_sum", "want_modulus", "term_text", "Sum", "_law_rng", "_law_draw", "_law_choice", "_law_some_names", "_law_drawn", "_law_added", "_law_replaced", "_law_value"]
def loose1 : List Str := ["_law_tells", "_law_right", "_law_values_right"]
def loose : List Str := loose0 ++ loose1
abbrev hk : PySem.W.Hook := QH.hookQ 6 fb fn
def ob (s : PySem.W.SharedT) : QH.AlQ := QH.obQ 6 fb fn (HandSHeadRun.getT s)
theorem run (w : World) : HandSHeadRun.RunEq Rw (PySem.W.view Rw.prog [35]) hk ob 6000 loose w := by
  intro os
  kernel_rfl
end K11

set_option Elab.async false
set_option linter.all false
set_option maxRecDepth 100000
set_option maxHeartbeats 0
namespace K11
open PySem PySem.Spec L2 PyProof.Rows QD
theorem law_ok {P : Program} {w : World} {K : PySem.W.Frag} {h : Heap} {mg : Str → Option Value} (X : K.In h) (G : h.Ns mainGlobals mg) (c : QH.Says fb fn K) :
    ∃ fd : FuncData, mg "law" = some (.ref (He.ga K "law")) ∧ (∀ (s : Shared) (v : Value), BindsTo s fd ⟨[v], []⟩ [("script", v)]) ∧ ∀ base : Heap, K.In base → base.Ns mainGlobals mg → FnOk P w K mg base CX0 10 (He.ga K "law") fd ["script"] (S_law K (He.ga K "Sum")) := by
  have T : Txt K mg (He.ga K "Sum") := by
    have t0 := He.glo_ok X G (c.fact (f := .a (.glo "Sum")) (List.mem_of_getElem? (i := 17) (l := fb) rfl))
    have t1 := (QH.clsF_ok (c.fact (f := .clsF "Sum") (List.mem_of_getElem? (i := 18) (l := fb) rfl))).ic.cl
    have t2 := (QH.clsF_ok (c.fact (f := .clsF "Sum") (List.mem_of_getElem? (i := 18) (l := fb) rfl)))
    have t3 := (c.fact (f := .sf "Sum") (List.mem_of_getElem? (i := 19) (l := fb) rfl))
    have t4 := QH.owI_ok (c.fact (f := .owI "Sum" .Mult) (List.mem_of_getElem? (i := 37) (l := fb) rfl))
    have t5 := He.noat_ok (c.fact (f := .a (.noat "Sum" "own_modulus")) (List.mem_of_getElem? (i := 20) (l := fb) rfl))
    have t6 := He.noat_ok (c.fact (f := .a (.noat "Sum" "own_weights")) (List.mem_of_getElem? (i := 21) (l := fb) rfl))
    have t7 := He.noat_ok (c.fact (f := .a (.noat "Sum" "own_constant")) (List.mem_of_getElem? (i := 22) (l := fb) rfl))
    have t8 := QH.tup_ok X G (l := ([2, 3, 5, 7, 11, 13] : List Int)) (c.fact (f := .a (.glo "MODULI")) (List.mem_of_getElem? (i := 38) (l := fb) rfl)) (c.fact (f := .tup "MODULI" (([2, 3, 5, 7, 11, 13] : List Int).map .int)) (List.mem_of_getElem? (i := 39) (l := fb) rfl))
    have t9 := He.str_ok X G (c.fact (f := .a (.str "LETTERS" lettersS)) (List.mem_of_getElem? (i := 40) (l := fb) rfl))
    have t10 := He.str_ok X G (c.fact (f := .a (.str "NAME_SIGNS" signsS)) (List.mem_of_getElem? (i := 41) (l := fb) rfl))
    have t11 := He.int_ok X G (c.fact (f := .a (.int "LONGEST_NAME" 12)) (List.mem_of_getElem? (i := 42) (l := fb) rfl))
    have t12 := He.free_ok X G (c.fact (f := .a (.free "isinstance")) (List.mem_of_getElem? (i := 43) (l := fb) rfl))
    have t13 := He.free_ok X G (c.fact (f := .a (.free "int")) (List.mem_of_getElem? (i := 44) (l := fb) rfl))
    have t14 := He.free_ok X G (c.fact (f := .a (.free "bool")) (List.mem_of_getElem? (i := 45) (l := fb) rfl))
    have t15 := He.free_ok X G (c.fact (f := .a (.free "str")) (List.mem_of_getElem? (i := 46) (l := fb) rfl))
    have t16 := He.free_ok X G (c.fact (f := .a (.free "dict")) (List.mem_of_getElem? (i := 47) (l := fb) rfl))
    have t17 := He.free_ok X G (c.fact (f := .a (.free "list")) (List.mem_of_getElem? (i := 48) (l := fb) rfl))
    have t18 := He.free_ok X G (c.fact (f := .a (.free "len")) (List.mem_of_getElem? (i := 49) (l := fb) rfl))
    have t19 := He.free_ok X G (c.fact (f := .a (.free "all")) (List.mem_of_getElem? (i := 50) (l := fb) rfl))
    have t20 := He.free_ok X G (c.fact (f := .a (.free "sum")) (List.mem_of_getElem? (i := 51) (l := fb) rfl))
    have t21 := He.free_ok X G (c.fact (f := .a (.free "sorted")) (List.mem_of_getElem? (i := 52) (l := fb) rfl))
    have t22 := He.free_ok X G (c.fact (f := .a (.free "range")) (List.mem_of_getElem? (i := 53) (l := fb) rfl))
    have t23 := He.free_ok X G (c.fact (f := .a (.free "max")) (List.mem_of_getElem? (i := 54) (l := fb) rfl))
    have t24 := He.free_ok X G (c.fact (f := .a (.free "min")) (List.mem_of_getElem? (i := 55) (l := fb) rfl))
    have t25 := He.free_ok X G (c.fact (f := .a (.free "abs")) (List.mem_of_getElem? (i := 56) (l := fb) rfl))
    have t26 := He.free_ok X G (c.fact (f := .a (.free "divmod")) (List.mem_of_getElem? (i := 57) (l := fb) rfl))
    exact ⟨t0, t1, t2, t3, t4, t5, t6, t7, t8, t9, t10, t11, t12, t13, t14, t15, t16, t17, t18, t19, t20, t21, t22, t23, t24, t25, t26⟩
  obtain ⟨fd_is_integer, F_is_integer⟩ := c.dfn 0 rfl
  obtain ⟨fd_is_number, F_is_number⟩ := c.dfn 1 rfl
  obtain ⟨fd_is_name, F_is_name⟩ := c.dfn 2 rfl
  obtain ⟨fd_is_world, F_is_world⟩ := c.dfn 3 rfl
  obtain ⟨fd_is_sum, F_is_sum⟩ := c.dfn 4 rfl
  obtain ⟨fd_want_modulus, F_want_modulus⟩ := c.dfn 5 rfl
  obtain ⟨fd_Sum__init, F_Sum__init⟩ := c.dfn 6 rfl
  obtain ⟨fd_Sum_modulus, F_Sum_modulus⟩ := c.dfn 7 rfl
  obtain ⟨fd_Sum_constant, F_Sum_constant⟩ := c.dfn 8 rfl
  obtain ⟨fd_Sum_is_constant, F_Sum_is_constant⟩ := c.dfn 9 rfl
  obtain ⟨fd_Sum_weights, F_Sum_weights⟩ := c.dfn 10 rfl
  obtain ⟨fd_Sum_names, F_Sum_names⟩ := c.dfn 11 rfl
  obtain ⟨fd_Sum_weight, F_Sum_weight⟩ := c.dfn 12 rfl
  obtain ⟨fd_Sum_want_alike, F_Sum_want_alike⟩ := c.dfn 13 rfl
  obtain ⟨fd_Sum__mul, F_Sum__mul⟩ := c.dfn 14 rfl
  obtain ⟨fd_Sum__neg, F_Sum__neg⟩ := c.dfn 15 rfl
  obtain ⟨fd_Sum__add, F_Sum__add⟩ := c.dfn 16 rfl
  obtain ⟨fd_Sum__sub, F_Sum__sub⟩ := c.dfn 17 rfl
  obtain ⟨fd_Sum_at, F_Sum_at⟩ := c.dfn 18 rfl
  obtain ⟨fd_Sum_put, F_Sum_put⟩ := c.dfn 19 rfl
  obtain ⟨fd_law_rng, F_law_rng⟩ := c.dfn 20 rfl
  obtain ⟨fd_law_draw, F_law_draw⟩ := c.dfn 21 rfl
  obtain ⟨fd_law_some_names, F_law_some_names⟩ := c.dfn 22 rfl
  obtain ⟨fd_law_added, F_law_added⟩ := c.dfn 23 rfl
  obtain ⟨fd_law_replaced, F_law_replaced⟩ := c.dfn 24 rfl
  obtain ⟨fd_law_value, F_law_value⟩ := c.dfn 25 rfl
  obtain ⟨fd_law_tells, F_law_tells⟩ := c.dfn 26 rfl
  obtain ⟨fd_law_drawn, F_law_drawn⟩ := c.dfn 27 rfl
  obtain ⟨fd_law_values_right, F_law_values_right⟩ := c.dfn 28 rfl
  obtain ⟨fd_law_right, F_law_right⟩ := c.dfn 29 rfl
  obtain ⟨fd_law, F_law⟩ := c.dfn 30 rfl
  have b_is_integer : Binds K fd_is_integer ["value"] [] := FunD.bindsN F_is_integer fun _ _ _ _ _ _ us hl => match us, hl with | [_], _ => rfl
  have b_is_number : Binds K fd_is_number ["value", "modulus"] [] := FunD.bindsN F_is_number fun _ _ _ _ _ _ us hl => match us, hl with | [_, _], _ => rfl
  have b_is_name : Binds K fd_is_name ["value"] [] := FunD.bindsN F_is_name fun _ _ _ _ _ _ us hl => match us, hl with | [_], _ => rfl
  have b_is_world : Binds K fd_is_world ["value", "modulus"] [] := FunD.bindsN F_is_world fun _ _ _ _ _ _ us hl => match us, hl with | [_, _], _ => rfl
  have b_is_sum : Binds K fd_is_sum ["value", "modulus"] [] := FunD.bindsN F_is_sum fun _ _ _ _ _ _ us hl => match us, hl with | [_, _], _ => rfl
  have b_want_modulus : Binds K fd_want_modulus ["value"] [] := FunD.bindsN F_want_modulus fun _ _ _ _ _ _ us hl => match us, hl with | [_], _ => rfl
  have b_Sum__init : ∃ ds, Vals ([] : List V) ds ∧ Binds K fd_Sum__init ["self", "modulus", "weights", "constant"] ds := FunD.binds1 F_Sum__init 4 1 (by intro z; cases z) rfl fun _ _ _ _ _ _ _ us its h1 h2 => match us, h1, its, h2 with | [_, _, _, _], _, [_], _ => ⟨_, rfl, rfl⟩
  have b_Sum__init1 : ∃ ds, Vals [V.int 0] ds ∧ Binds K fd_Sum__init ["self", "modulus", "weights", "constant"] ds := FunD.binds1 F_Sum__init 3 0 (by intro z; cases z) rfl fun _ _ _ _ _ _ _ us its h1 h2 => match us, h1, its, h2 with | [_, _, _], _, [_], _ => ⟨_, rfl, rfl⟩
  have b_Sum_modulus : Binds K fd_Sum_modulus ["self"] [] := FunD.bindsN F_Sum_modulus fun _ _ _ _ _ _ us hl => match us, hl with | [_], _ => rfl
  have b_Sum_constant : Binds K fd_Sum_constant ["self"] [] := FunD.bindsN F_Sum_constant fun _ _ _ _ _ _ us hl => match us, hl with | [_], _ => rfl
  have b_Sum_is_constant : Binds K fd_Sum_is_constant ["self"] [] := FunD.bindsN F_Sum_is_constant fun _ _ _ _ _ _ us hl => match us, hl with | [_], _ => rfl
  have b_Sum_weights : Binds K fd_Sum_weights ["self"] [] := FunD.bindsN F_Sum_weights fun _ _ _ _ _ _ us hl => match us, hl with | [_], _ => rfl
  have b_Sum_names : Binds K fd_Sum_names ["self"] [] := FunD.bindsN F_Sum_names fun _ _ _ _ _ _ us hl => match us, hl with | [_], _ => rfl
  have b_Sum_weight : Binds K fd_Sum_weight ["self", "name"] [] := FunD.bindsN F_Sum_weight fun _ _ _ _ _ _ us hl => match us, hl with | [_, _], _ => rfl
  have b_Sum_want_alike : Binds K fd_Sum_want_alike ["self", "other"] [] := FunD.bindsN F_Sum_want_alike fun _ _ _ _ _ _ us hl => match us, hl with | [_, _], _ => rfl
  have b_Sum__mul : Binds K fd_Sum__mul ["self", "number"] [] := FunD.bindsN F_Sum__mul fun _ _ _ _ _ _ us hl => match us, hl with | [_, _], _ => rfl
  have b_Sum__neg : Binds K fd_Sum__neg ["self"] [] := FunD.bindsN F_Sum__neg fun _ _ _ _ _ _ us hl => match us, hl with | [_], _ => rfl
  have b_Sum__add : Binds K fd_Sum__add ["self", "other"] [] := FunD.bindsN F_Sum__add fun _ _ _ _ _ _ us hl => match us, hl with | [_, _], _ => rfl
  have b_Sum__sub : Binds K fd_Sum__sub ["self", "other"] [] := FunD.bindsN F_Sum__sub fun _ _ _ _ _ _ us hl => match us, hl with | [_, _], _ => rfl
  have b_Sum_at : Binds K fd_Sum_at ["self", "world"] [] := FunD.bindsN F_Sum_at fun _ _ _ _ _ _ us hl => match us, hl with | [_, _], _ => rfl
  have b_Sum_put : Binds K fd_Sum_put ["self", "sums"] [] := FunD.bindsN F_Sum_put fun _ _ _ _ _ _ us hl => match us, hl with | [_, _], _ => rfl
  have b_law_rng : Binds K fd_law_rng ["script", "k"] [] := FunD.bindsN F_law_rng fun _ _ _ _ _ _ us hl => match us, hl with | [_, _], _ => rfl
  have b_law_draw : Binds K fd_law_draw ["rng", "many"] [] := FunD.bindsN F_law_draw fun _ _ _ _ _ _ us hl => match us, hl with | [_, _], _ => rfl
  have b_law_some_names : Binds K fd_law_some_names ["rng", "many"] [] := FunD.bindsN F_law_some_names fun _ _ _ _ _ _ us hl => match us, hl with | [_, _], _ => rfl
  have b_law_added : Binds K fd_law_added ["one", "other", "by", "q"] [] := FunD.bindsN F_law_added fun _ _ _ _ _ _ us hl => match us, hl with | [_, _, _, _], _ => rfl
  have b_law_replaced : Binds K fd_law_replaced ["model", "sums", "q"] [] := FunD.bindsN F_law_replaced fun _ _ _ _ _ _ us hl => match us, hl with | [_, _, _], _ => rfl
  have b_law_value : Binds K fd_law_value ["model", "world", "q"] [] := FunD.bindsN F_law_value fun _ _ _ _ _ _ us hl => match us, hl with | [_, _, _], _ => rfl
  have b_law_tells : Binds K fd_law_tells ["one", "model", "q"] [] := FunD.bindsN F_law_tells fun _ _ _ _ _ _ us hl => match us, hl with | [_, _, _], _ => rfl
  have b_law_drawn : Binds K fd_law_drawn ["rng", "names", "q"] [] := FunD.bindsN F_law_drawn fun _ _ _ _ _ _ us hl => match us, hl with | [_, _, _], _ => rfl
  have b_law_values_right : Binds K fd_law_values_right ["rng", "names", "pairs", "q"] [] := FunD.bindsN F_law_values_right fun _ _ _ _ _ _ us hl => match us, hl with | [_, _, _, _], _ => rfl
  have b_law_right : Binds K fd_law_right ["rng"] [] := FunD.bindsN F_law_right fun _ _ _ _ _ _ us hl => match us, hl with | [_], _ => rfl
  have b_law : Binds K fd_law ["script"] [] := FunD.bindsN F_law fun _ _ _ _ _ _ us hl => match us, hl with | [_], _ => rfl
  refine ⟨fd_law, He.glo_ok X G (c.fact (f := .a (.glo "law")) (List.mem_of_getElem? (i := 16) (l := fb) rfl)), fun s v => FunD.bindsA F_law (ps := ["script"]) (fun _ _ _ _ _ _ us hl => match us, hl with | [_], _ => rfl) s [v] rfl, fun base KB GB => ?_⟩
  have c_is_integer : Cal P w K mg base 1 "is_integer" ["value"] (S_is_integer K (He.ga K "Sum")) := ⟨_, _, (ok_is_integer T (FunD.u F_is_integer)), He.glo_ok X G (c.fact (f := .a (.glo "is_integer")) (List.mem_of_getElem? (i := 0) (l := fb) rfl)), F_is_integer.kp, b_is_integer⟩
  have c_is_number : Cal P w K mg base 2 "is_number" ["value", "modulus"] (S_is_number K (He.ga K "Sum")) := ⟨_, _, (ok_is_number T c_is_integer (FunD.u F_is_number)), He.glo_ok X G (c.fact (f := .a (.glo "is_number")) (List.mem_of_getElem? (i := 1) (l := fb) rfl)), F_is_number.kp, b_is_number⟩
  have c_is_name : Cal P w K mg base 1 "is_name" ["value"] (S_is_name K (He.ga K "Sum")) := ⟨_, _, (ok_is_name T (FunD.u F_is_name)), He.glo_ok X G (c.fact (f := .a (.glo "is_name")) (List.mem_of_getElem? (i := 2) (l := fb) rfl)), F_is_name.kp, b_is_name⟩
  have c_is_world : Cal P w K mg base 3 "is_world" ["value", "modulus"] (S_is_world K (He.ga K "Sum")) := ⟨_, _, (ok_is_world T c_is_name c_is_number (FunD.u F_is_world)), He.glo_ok X G (c.fact (f := .a (.glo "is_world")) (List.mem_of_getElem? (i := 3) (l := fb) rfl)), F_is_world.kp, b_is_world⟩
  have c_is_sum : Cal P w K mg base 1 "is_sum" ["value", "modulus"] (S_is_sum K (He.ga K "Sum")) := ⟨_, _, (ok_is_sum T (FunD.u F_is_sum)), He.glo_ok X G (c.fact (f := .a (.glo "is_sum")) (List.mem_of_getElem? (i := 4) (l := fb) rfl)), F_is_sum.kp, b_is_sum⟩
  have c_want_modulus : Cal P w K mg base 2 "want_modulus" ["value"] (S_want_modulus K (He.ga K "Sum")) := ⟨_, _, (ok_want_modulus T c_is_integer (FunD.u F_want_modulus)), He.glo_ok X G (c.fact (f := .a (.glo "want_modulus")) (List.mem_of_getElem? (i := 5) (l := fb) rfl)), F_want_modulus.kp, b_want_modulus⟩
  have c_Sum__init : Mak P w K mg base 4 (He.ga K "Sum") "Sum" ["self", "modulus", "weights", "constant"] (S_Sum__init K (He.ga K "Sum")) [] := by
    obtain ⟨ds, v, b⟩ := b_Sum__init
    exact ⟨_, _, ds, (ok_Sum__init T c_is_number c_is_world c_want_modulus (FunD.u F_Sum__init)), (He.mkr_ok (c.fact (f := .a (.mkr "Sum")) (List.mem_of_getElem? (i := 23) (l := fb) rfl))), (He.glo_ok X G (c.fact (f := .a (.glo "Sum")) (List.mem_of_getElem? (i := 17) (l := fb) rfl))), b, v⟩
  have c_Sum__init1 : Mak P w K mg base 4 (He.ga K "Sum") "Sum" ["self", "modulus", "weights", "constant"] (S_Sum__init K (He.ga K "Sum")) [.int 0] := by
    obtain ⟨ds, v, b⟩ := b_Sum__init1
    exact ⟨_, _, ds, (ok_Sum__init T c_is_number c_is_world c_want_modulus (FunD.u F_Sum__init)), (He.mkr_ok (c.fact (f := .a (.mkr "Sum")) (List.mem_of_getElem? (i := 23) (l := fb) rfl))), (He.glo_ok X G (c.fact (f := .a (.glo "Sum")) (List.mem_of_getElem? (i := 17) (l := fb) rfl))), b, v⟩
  have c_Sum_modulus : Prp P w K mg base 1 (He.ga K "Sum") "modulus" ["self"] (S_Sum_modulus K (He.ga K "Sum")) := ⟨_, _, _, (ok_Sum_modulus T (FunD.u F_Sum_modulus)), QH.prp_ok (c.fact (f := .prp "Sum" "modulus") (List.mem_of_getElem? (i := 24) (l := fb) rfl)), b_Sum_modulus⟩
  have c_Sum_constant : Prp P w K mg base 1 (He.ga K "Sum") "constant" ["self"] (S_Sum_constant K (He.ga K "Sum")) := ⟨_, _, _, (ok_Sum_constant T (FunD.u F_Sum_constant)), QH.prp_ok (c.fact (f := .prp "Sum" "constant") (List.mem_of_getElem? (i := 25) (l := fb) rfl)), b_Sum_constant⟩
  have c_Sum_is_constant : Prp P w K mg base 1 (He.ga K "Sum") "is_constant" ["self"] (S_Sum_is_constant K (He.ga K "Sum")) := ⟨_, _, _, (ok_Sum_is_constant T (FunD.u F_Sum_is_constant)), QH.prp_ok (c.fact (f := .prp "Sum" "is_constant") (List.mem_of_getElem? (i := 26) (l := fb) rfl)), b_Sum_is_constant⟩
  have c_Sum_weights : Mth P w K mg base 1 (He.ga K "Sum") "weights" ["self"] (S_Sum_weights K (He.ga K "Sum")) := ⟨_, _, (ok_Sum_weights T (FunD.u F_Sum_weights)), He.meth_ok (c.fact (f := .a (.meth "Sum" "weights")) (List.mem_of_getElem? (i := 27) (l := fb) rfl)), b_Sum_weights⟩
  have c_Sum_names : Mth P w K mg base 1 (He.ga K "Sum") "names" ["self"] (S_Sum_names K (He.ga K "Sum")) := ⟨_, _, (ok_Sum_names T (FunD.u F_Sum_names)), He.meth_ok (c.fact (f := .a (.meth "Sum" "names")) (List.mem_of_getElem? (i := 28) (l := fb) rfl)), b_Sum_names⟩
  have c_Sum_weight : Mth P w K mg base 1 (He.ga K "Sum") "weight" ["self", "name"] (S_Sum_weight K (He.ga K "Sum")) := ⟨_, _, (ok_Sum_weight T (FunD.u F_Sum_weight)), He.meth_ok (c.fact (f := .a (.meth "Sum" "weight")) (List.mem_of_getElem? (i := 29) (l := fb) rfl)), b_Sum_weight⟩
  have c_Sum_want_alike : Mth P w K mg base 3 (He.ga K "Sum") "want_alike" ["self", "other"] (S_Sum_want_alike K (He.ga K "Sum")) := ⟨_, _, (ok_Sum_want_alike T c_Sum_modulus (FunD.u F_Sum_want_alike)), He.meth_ok (c.fact (f := .a (.meth "Sum" "want_alike")) (List.mem_of_getElem? (i := 30) (l := fb) rfl)), b_Sum_want_alike⟩
  have c_Sum__mul : Mth P w K mg base 6 (He.ga K "Sum") "__mul__" ["self", "number"] (S_Sum__mul K (He.ga K "Sum")) := ⟨_, _, (ok_Sum__mul T c_Sum__init c_is_integer (FunD.u F_Sum__mul)), He.meth_ok (c.fact (f := .a (.meth "Sum" "__mul__")) (List.mem_of_getElem? (i := 31) (l := fb) rfl)), b_Sum__mul⟩
  have c_Sum__neg : Mth P w K mg base 7 (He.ga K "Sum") "__neg__" ["self"] (S_Sum__neg K (He.ga K "Sum")) := ⟨_, _, (ok_Sum__neg T c_Sum__mul (FunD.u F_Sum__neg)), He.meth_ok (c.fact (f := .a (.meth "Sum" "__neg__")) (List.mem_of_getElem? (i := 32) (l := fb) rfl)), b_Sum__neg⟩
  have c_Sum__add : Mth P w K mg base 6 (He.ga K "Sum") "__add__" ["self", "other"] (S_Sum__add K (He.ga K "Sum")) := ⟨_, _, (ok_Sum__add T c_Sum__init c_Sum_constant c_Sum_want_alike c_Sum_weights (FunD.u F_Sum__add)), He.meth_ok (c.fact (f := .a (.meth "Sum" "__add__")) (List.mem_of_getElem? (i := 33) (l := fb) rfl)), b_Sum__add⟩
  have c_Sum__sub : Mth P w K mg base 7 (He.ga K "Sum") "__sub__" ["self", "other"] (S_Sum__sub K (He.ga K "Sum")) := ⟨_, _, (ok_Sum__sub T c_Sum__add c_Sum__mul c_Sum_want_alike (FunD.u F_Sum__sub)), He.meth_ok (c.fact (f := .a (.meth "Sum" "__sub__")) (List.mem_of_getElem? (i := 34) (l := fb) rfl)), b_Sum__sub⟩
  have c_Sum_at : Mth P w K mg base 4 (He.ga K "Sum") "at" ["self", "world"] (S_Sum_at K (He.ga K "Sum")) := ⟨_, _, (ok_Sum_at T c_is_world (FunD.u F_Sum_at)), He.meth_ok (c.fact (f := .a (.meth "Sum" "at")) (List.mem_of_getElem? (i := 35) (l := fb) rfl)), b_Sum_at⟩
  have c_Sum_put : Mth P w K mg base 7 (He.ga K "Sum") "put" ["self", "sums"] (S_Sum_put K (He.ga K "Sum")) := ⟨_, _, (ok_Sum_put T c_Sum__add c_Sum__init c_Sum__init1 c_Sum__mul c_is_name c_is_sum (FunD.u F_Sum_put)), He.meth_ok (c.fact (f := .a (.meth "Sum" "put")) (List.mem_of_getElem? (i := 36) (l := fb) rfl)), b_Sum_put⟩
  have c_law_rng : Cal P w K mg base 1 "_law_rng" ["script", "k"] (S_law_rng K (He.ga K "Sum")) := ⟨_, _, (ok_law_rng T (FunD.u F_law_rng)), He.glo_ok X G (c.fact (f := .a (.glo "_law_rng")) (List.mem_of_getElem? (i := 6) (l := fb) rfl)), F_law_rng.kp, b_law_rng⟩
  have c_law_draw : Cal P w K mg base 1 "_law_draw" ["rng", "many"] (S_law_draw K (He.ga K "Sum")) := ⟨_, _, (ok_law_draw T (FunD.u F_law_draw)), He.glo_ok X G (c.fact (f := .a (.glo "_law_draw")) (List.mem_of_getElem? (i := 7) (l := fb) rfl)), F_law_draw.kp, b_law_draw⟩
  have c_law_some_names : Cal P w K mg base 2 "_law_some_names" ["rng", "many"] (S_law_some_names K (He.ga K "Sum")) := ⟨_, _, (ok_law_some_names T c_law_draw (FunD.u F_law_some_names)), He.glo_ok X G (c.fact (f := .a (.glo "_law_some_names")) (List.mem_of_getElem? (i := 8) (l := fb) rfl)), F_law_some_names.kp, b_law_some_names⟩
  have c_law_added : Cal P w K mg base 1 "_law_added" ["one", "other", "by", "q"] (S_law_added K (He.ga K "Sum")) := ⟨_, _, (ok_law_added T (FunD.u F_law_added)), He.glo_ok X G (c.fact (f := .a (.glo "_law_added")) (List.mem_of_getElem? (i := 9) (l := fb) rfl)), F_law_added.kp, b_law_added⟩
  have c_law_replaced : Cal P w K mg base 2 "_law_replaced" ["model", "sums", "q"] (S_law_replaced K (He.ga K "Sum")) := ⟨_, _, (ok_law_replaced T c_law_added (FunD.u F_law_replaced)), He.glo_ok X G (c.fact (f := .a (.glo "_law_replaced")) (List.mem_of_getElem? (i := 10) (l := fb) rfl)), F_law_replaced.kp, b_law_replaced⟩
  have c_law_value : Cal P w K mg base 1 "_law_value" ["model", "world", "q"] (S_law_value K (He.ga K "Sum")) := ⟨_, _, (ok_law_value T (FunD.u F_law_value)), He.glo_ok X G (c.fact (f := .a (.glo "_law_value")) (List.mem_of_getElem? (i := 11) (l := fb) rfl)), F_law_value.kp, b_law_value⟩
  have c_law_tells : Cal P w K mg base 3 "_law_tells" ["one", "model", "q"] (S_law_tells K (He.ga K "Sum")) := ⟨_, _, (ok_law_tells T c_Sum_constant c_Sum_is_constant c_Sum_modulus c_Sum_names c_Sum_weight c_Sum_weights (FunD.u F_law_tells)), He.glo_ok X G (c.fact (f := .a (.glo "_law_tells")) (List.mem_of_getElem? (i := 12) (l := fb) rfl)), F_law_tells.kp, b_law_tells⟩
  have c_law_drawn : Cal P w K mg base 2 "_law_drawn" ["rng", "names", "q"] (S_law_drawn K (He.ga K "Sum")) := ⟨_, _, (ok_law_drawn T c_law_draw (FunD.u F_law_drawn)), He.glo_ok X G (c.fact (f := .a (.glo "_law_drawn")) (List.mem_of_getElem? (i := 13) (l := fb) rfl)), F_law_drawn.kp, b_law_drawn⟩
  have c_law_drawnM : Cal P w K mg base 2 "_law_drawn" ["rng", "names", "q"] (S_law_drawnM K (He.ga K "Sum")) := ⟨_, _, (ok_law_drawnM T c_law_draw (FunD.u F_law_drawn)), He.glo_ok X G (c.fact (f := .a (.glo "_law_drawn")) (List.mem_of_getElem? (i := 13) (l := fb) rfl)), F_law_drawn.kp, b_law_drawn⟩
  have c_law_values_right : Cal P w K mg base 8 "_law_values_right" ["rng", "names", "pairs", "q"] (S_law_values_right K (He.ga K "Sum")) := ⟨_, _, (ok_law_values_right T c_Sum__init c_Sum_at c_Sum_put c_law_draw c_law_drawn c_law_replaced c_law_tells c_law_value (FunD.u F_law_values_right)), He.glo_ok X G (c.fact (f := .a (.glo "_law_values_right")) (List.mem_of_getElem? (i := 14) (l := fb) rfl)), F_law_values_right.kp, b_law_values_right⟩
  have c_law_right : Cal P w K mg base 9 "_law_right" ["rng"] (S_law_right K (He.ga K "Sum")) := ⟨_, _, (ok_law_right T c_Sum__add c_Sum__init c_Sum__mul c_Sum__neg c_Sum__sub c_law_added c_law_draw c_law_drawnM c_law_some_names c_law_tells c_law_values_right (FunD.u F_law_right)), He.glo_ok X G (c.fact (f := .a (.glo "_law_right")) (List.mem_of_getElem? (i := 15) (l := fb) rfl)), F_law_right.kp, b_law_right⟩
  exact ok_law T c_law_right c_law_rng (FunD.u F_law)
end K11

set_option Elab.async false
set_option linter.all false
open PySem PySem.W PySem.Calls PyProof.Rows
set_option maxRecDepth 100000 in
set_option maxHeartbeats 0 in
theorem PySem.Challenge.cw_quietshares_k11_sums_by_numbers_holds : PySem.Challenge.rw_quietshares_k11_sums_by_numbers.Holds := by
  w_on; o_law
  refine HandSHeadRun.head_any (r := K11.Rw) (q := view K11.Rw.prog [35]) (H := K11.hk) (ob := K11.ob) (M := 6000) (loose := K11.loose) (d := HandSHeadRun.topDef K11.Rw.prog 35) (kwd := []) (fun s => QH.obQ_eq s)
    (by kernel_rfl) (fun s => by kernel_rfl) K11.run (by kernel_rfl) (by kernel_rfl) (by kernel_rfl) (by rfl) (by first | assumption | decide +kernel) (by decide +kernel) ⟨rfl, rfl, rfl, rfl, rfl, by decide +kernel⟩ ?hw ?hc
  case hw => w_witness2
  case hc =>
    refine L2.walk_ofE (l := PySem.Challenge.rw_quietshares_k11_sums_by_numbers) (n := 63) (k := 10) (x := "script") (CX := L2.CX0) rfl (by decide) (by kernel_rfl) ⟨rfl, by decide, by decide⟩ ?F (fun _ _ _ _ z => z)
    intro w mg fa h Y G hmg0
    obtain ⟨K, KX, c⟩ := Y
    have hmg : mg ("law" : PySem.Str) = some (.ref fa) := by
      have e : (HandSHeadRun.topDef K11.Rw.prog 35).name = ("law" : PySem.Str) := by kernel_rfl
      rw [← e]
      exact hmg0
    obtain ⟨fd, hl, hb, hF⟩ := K11.law_ok (P := (PySem.Challenge.rw_quietshares_k11_sums_by_numbers).prog) (w := w) KX G c
    have e := hl.symm.trans hmg
    cases e
    exact ⟨K, fd, _, KX, hb, fun H a ns hl _ hS => QH.law_sp hS (by rw [K11.r_law]), hF⟩

