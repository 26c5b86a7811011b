import PyProof.Rows.All
import Wide.All
import OpenK.AllK
import Wide.FinOn
import HandS.ForMost
import HandS.Exc
import HandS.TupAny
import HandS.IsInst
import HandS.Wide
import HandS.Zip
import KE.GoesMore
import HandS.RevRange
import HandS.Conv
import HandS.SortInts
import PyProof.TupleOfSeq
import PySem.Challenge.RW_nowhereworse_k16_free_and_strata
set_option Elab.async false
set_option linter.all false
set_option maxRecDepth 100000
set_option maxHeartbeats 4000000
set_option autoImplicit true
namespace Pm
open PySem PySem.Spec L2

/-- data: what a value is, with what it holds. lst: a list that no one changes any more; own: a list that has one owner -/
inductive D where
  | non | bl (b : Bool) | int (i : Int) | str (x : Str)
  | tup (xs : List D) | lst (xs : List D) | own (xs : List D)

/-- the names' data by slot -/
abbrev Ev := List (Option D)

/-- the end of a piece of code -/
inductive Rs (α : Type) where
  | ok (a : α) (w : Ev)
  | ex (c : Str) (fs : List (Str × D)) (w : Ev)
  | bad
abbrev PM (α : Type) := Ev → Rs α

def Rs.bind {α β : Type} (r : Rs α) (k : α → Ev → Rs β) : Rs β :=
  match r with
  | .ok a w => k a w
  | .ex c fs w => .ex c fs w
  | .bad => .bad
@[simp] theorem Rs.bind_ok {α β : Type} (a : α) (w : Ev) (k : α → Ev → Rs β) : (Rs.ok a w).bind k = k a w := rfl
@[simp] theorem Rs.bind_ex {α β : Type} (c : Str) (fs : List (Str × D)) (w : Ev) (k : α → Ev → Rs β) : (Rs.ex (α := α) c fs w).bind k = .ex c fs w := rfl
@[simp] theorem Rs.bind_bad {α β : Type} (k : α → Ev → Rs β) : (Rs.bad (α := α)).bind k = .bad := rfl

/-- a list that no one changes -/
def Fz (K : PySem.W.Frag) (H : Hp) (a : Addr) (xs : List V) : Prop :=
  (∃ o, H a = some (.frz o (.lst xs))) ∨
    ∃ (o : Obj) (its : Array Value) (n : Nat), K.lookup a = some o ∧ o.cls = .type "list" ∧ o.dict = none ∧ o.data = .seq its n ∧ its.size ≤ sizeLine ∧ Vals xs its.toList
theorem Fz.sq {K : PySem.W.Frag} {H : Hp} {a : Addr} {xs : List V} (h : Fz K H a xs) : SqL K H a xs := by
  rcases h with h | h
  · exact .inl (.inr h)
  · exact .inr h

mutual
/-- the value v bears the data d; fp: the lists that d owns -/
def RV (K : PySem.W.Frag) (H : Hp) : D → V → List Addr → Prop
  | .non, v, fp => v = .non ∧ fp = []
  | .bl b, v, fp => v = .bl b ∧ fp = []
  | .int i, v, fp => v = .int i ∧ fp = []
  | .str x, v, fp => v = .str x ∧ fp = []
  | .tup xs, v, fp => ∃ a vs, v = .ref a ∧ SqT K H a vs ∧ RVs K H xs vs fp
  | .lst xs, v, fp => ∃ a vs, v = .ref a ∧ Fz K H a vs ∧ RVs K H xs vs [] ∧ fp = []
  | .own xs, v, fp => ∃ a vs f, v = .ref a ∧ H a = some (.lst vs) ∧ RVs K H xs vs f ∧ fp = a :: f
def RVs (K : PySem.W.Frag) (H : Hp) : List D → List V → List Addr → Prop
  | [], vs, fp => vs = [] ∧ fp = []
  | d :: ds, vs, fp => ∃ v r f g, vs = v :: r ∧ RV K H d v f ∧ RVs K H ds r g ∧ fp = f ++ g
end

/-- all but what stands at F is as it was -/
def Kp (F : List Addr) (H H' : Hp) : Prop := ∀ a o, H a = some o → a ∉ F → H' a = some o
/-- a step: all but F is kept; what is owned behind it was owned or is new -/
structure Stp (F : List Addr) (H : Hp) (F' : List Addr) (H' : Hp) : Prop where
  keep : Kp F H H'
  new : ∀ a ∈ F', a ∈ F ∨ H a = none
theorem Stp.refl {F F' : List Addr} {H : Hp} (h : ∀ a ∈ F', a ∈ F) : Stp F H F' H := ⟨fun _ _ e _ => e, fun a m => .inl (h a m)⟩
theorem Stp.trans {F F1 F2 : List Addr} {H H1 H2 : Hp} (a : Stp F H F1 H1) (b : Stp F1 H1 F2 H2) : Stp F H F2 H2 := by
  refine ⟨fun c o e n => ?_, fun c m => ?_⟩
  · refine b.keep c o (a.keep c o e n) fun m => ?_
    rcases a.new c m with z | z
    · exact n z
    · rw [e] at z; cases z
  · rcases b.new c m with z | z
    · exact a.new c z
    · by_cases hc : c ∈ F
      · exact .inl hc
      · refine .inr ?_
        cases q : H c with
        | none => rfl
        | some o => rw [a.keep c o q hc] at z; cases z

section
variable {K : PySem.W.Frag} {H H' : Hp} {F : List Addr}
theorem sqT_kp {a : Addr} {vs : List V} (k : Kp F H H') (m : ∀ a ∈ F, Mut (H a)) (h : SqT K H a vs) : SqT K H' a vs := by
  rcases h with (h | ⟨o, h⟩) | h
  · exact .inl (.inl (k _ _ h fun z => by have := m a z; rw [h] at this; exact this))
  · exact .inl (.inr ⟨o, k _ _ h fun z => by have := m a z; rw [h] at this; exact this⟩)
  · exact .inr h
theorem fz_kp {a : Addr} {vs : List V} (k : Kp F H H') (m : ∀ a ∈ F, Mut (H a)) (h : Fz K H a vs) : Fz K H' a vs := by
  rcases h with ⟨o, h⟩ | h
  · exact .inl ⟨o, k _ _ h fun z => by have := m a z; rw [h] at this; exact this⟩
  · exact .inr h
mutual
theorem RV.kp (k : Kp F H H') (m : ∀ a ∈ F, Mut (H a)) : ∀ (d : D) (v : V) (fp : List Addr), (∀ a ∈ fp, a ∉ F) → RV K H d v fp → RV K H' d v fp
  | .non, v, fp, _, h => h
  | .bl b, v, fp, _, h => h
  | .int i, v, fp, _, h => h
  | .str x, v, fp, _, h => h
  | .tup xs, v, fp, hd, h => by
    obtain ⟨a, vs, e, q, r⟩ := h
    exact ⟨a, vs, e, sqT_kp k m q, RVs.kp k m xs vs fp hd r⟩
  | .lst xs, v, fp, hd, h => by
    obtain ⟨a, vs, e, q, r, e2⟩ := h
    exact ⟨a, vs, e, fz_kp k m q, RVs.kp k m xs vs [] (fun _ z => nomatch z) r, e2⟩
  | .own xs, v, fp, hd, h => by
    obtain ⟨a, vs, f, e, q, r, e2⟩ := h
    subst e2
    exact ⟨a, vs, f, e, k _ _ q (hd a List.mem_cons_self), RVs.kp k m xs vs f (fun b hb => hd b (List.mem_cons_of_mem _ hb)) r, rfl⟩
theorem RVs.kp (k : Kp F H H') (m : ∀ a ∈ F, Mut (H a)) : ∀ (ds : List D) (vs : List V) (fp : List Addr), (∀ a ∈ fp, a ∉ F) → RVs K H ds vs fp → RVs K H' ds vs fp
  | [], vs, fp, _, h => h
  | d :: ds, vs, fp, hd, h => by
    obtain ⟨v, r, f, g, e, q, t, e2⟩ := h
    subst e2
    exact ⟨v, r, f, g, e, RV.kp k m d v f (fun b hb => hd b (List.mem_append_left _ hb)) q, RVs.kp k m ds r g (fun b hb => hd b (List.mem_append_right _ hb)) t, rfl⟩
end
mutual
theorem RV.mut : ∀ (d : D) (v : V) (fp : List Addr), RV K H d v fp → ∀ a ∈ fp, Mut (H a)
  | .non, v, fp, h => by obtain ⟨_, e⟩ := h; subst e; exact fun _ z => nomatch z
  | .bl b, v, fp, h => by obtain ⟨_, e⟩ := h; subst e; exact fun _ z => nomatch z
  | .int i, v, fp, h => by obtain ⟨_, e⟩ := h; subst e; exact fun _ z => nomatch z
  | .str x, v, fp, h => by obtain ⟨_, e⟩ := h; subst e; exact fun _ z => nomatch z
  | .tup xs, v, fp, h => by
    obtain ⟨a, vs, e, q, r⟩ := h
    exact RVs.mut xs vs fp r
  | .lst xs, v, fp, h => by
    obtain ⟨a, vs, e, q, r, e2⟩ := h
    subst e2
    exact fun _ z => nomatch z
  | .own xs, v, fp, h => by
    obtain ⟨a, vs, f, e, q, r, e2⟩ := h
    subst e2
    intro b hb
    rcases List.mem_cons.mp hb with z | z
    · subst z; rw [q]; trivial
    · exact RVs.mut xs vs f r b z
theorem RVs.mut : ∀ (ds : List D) (vs : List V) (fp : List Addr), RVs K H ds vs fp → ∀ a ∈ fp, Mut (H a)
  | [], vs, fp, h => by obtain ⟨_, e⟩ := h; subst e; exact fun _ z => nomatch z
  | d :: ds, vs, fp, h => by
    obtain ⟨v, r, f, g, e, q, t, e2⟩ := h
    subst e2
    intro b hb
    rcases List.mem_append.mp hb with z | z
    · exact RV.mut d v f q b z
    · exact RVs.mut ds r g t b z
end
theorem mut_some {a : Addr} (h : Mut (H a)) : ∃ o, H a = some o := by
  cases q : H a with
  | none => rw [q] at h; exact h.elim
  | some o => exact ⟨o, rfl⟩
theorem RVs.length : ∀ {ds : List D} {vs : List V} {fp : List Addr}, RVs K H ds vs fp → ds.length = vs.length
  | [], vs, fp, h => by obtain ⟨e, _⟩ := h; subst e; rfl
  | d :: ds, vs, fp, h => by
    obtain ⟨v, r, f, g, e, q, t, e2⟩ := h
    subst e
    rw [List.length_cons, List.length_cons, RVs.length t]
theorem RVs.append : ∀ {ds ds' : List D} {vs vs' : List V} {f g : List Addr}, RVs K H ds vs f → RVs K H ds' vs' g → RVs K H (ds ++ ds') (vs ++ vs') (f ++ g)
  | [], ds', vs, vs', f, g, h, h' => by obtain ⟨e, e2⟩ := h; subst e; subst e2; exact h'
  | d :: ds, ds', vs, vs', f, g, h, h' => by
    obtain ⟨v, r, f1, g1, e, q, t, e2⟩ := h
    subst e
    subst e2
    exact ⟨v, r ++ vs', f1, g1 ++ g, rfl, q, RVs.append t h', by rw [List.append_assoc]⟩
theorem RVs.split : ∀ {ds ds' : List D} {vs : List V} {fp : List Addr}, RVs K H (ds ++ ds') vs fp → ∃ vs1 vs2 f g, vs = vs1 ++ vs2 ∧ fp = f ++ g ∧ RVs K H ds vs1 f ∧ RVs K H ds' vs2 g
  | [], ds', vs, fp, h => ⟨[], vs, [], fp, rfl, rfl, ⟨rfl, rfl⟩, h⟩
  | d :: ds, ds', vs, fp, h => by
    obtain ⟨v, r, f, g, e, q, t, e2⟩ := h
    subst e
    subst e2
    obtain ⟨vs1, vs2, f1, g1, e1, e2, h1, h2⟩ := RVs.split (ds := ds) (ds' := ds') t
    subst e1
    subst e2
    exact ⟨v :: vs1, vs2, f ++ f1, g1, rfl, by rw [List.append_assoc], ⟨v, vs1, f, f1, rfl, q, h1, rfl⟩, h2⟩
theorem RVs.one {d : D} {v : V} {f : List Addr} (h : RV K H d v f) : RVs K H [d] [v] f := ⟨v, [], f, [], rfl, h, ⟨rfl, rfl⟩, by rw [List.append_nil]⟩
theorem RVs.one' {d : D} {v : V} {f : List Addr} (h : RVs K H [d] [v] f) : RV K H d v f := by
  obtain ⟨v', r, f1, g, e, q, ⟨e3, e4⟩, e2⟩ := h
  injection e with e1 _
  subst e1; subst e2; subst e4
  rw [List.append_nil]; exact q
theorem RVs.get : ∀ {ds : List D} {vs : List V} {fp : List Addr} {i : Nat} {d : D}, RVs K H ds vs fp → ds[i]? = some d → ∃ v f, vs[i]? = some v ∧ RV K H d v f ∧ ∀ a ∈ f, a ∈ fp
  | [], vs, fp, i, d, h, e => by simp at e
  | d0 :: ds, vs, fp, 0, d, h, e => by
    obtain ⟨v, r, f, g, e1, q, t, e2⟩ := h
    simp at e
    subst e; subst e1; subst e2
    exact ⟨v, f, rfl, q, fun a m => List.mem_append_left _ m⟩
  | d0 :: ds, vs, fp, i + 1, d, h, e => by
    obtain ⟨v, r, f, g, e1, q, t, e2⟩ := h
    subst e1; subst e2
    obtain ⟨v', f', h1, h2, h3⟩ := RVs.get (i := i) (d := d) t (by simpa using e)
    exact ⟨v', f', by simpa using h1, h2, fun a m => List.mem_append_right _ (h3 a m)⟩
end

/-! data that own nothing -/
mutual
def pl : D → Bool
  | .tup xs => pls xs
  | .own _ => false
  | _ => true
def pls : List D → Bool
  | [] => true
  | d :: ds => pl d && pls ds
end
section
variable {K : PySem.W.Frag} {H : Hp}
mutual
theorem rv_pl : ∀ (d : D) (v : V) (fp : List Addr), pl d = true → RV K H d v fp → fp = []
  | .non, v, fp, _, h => h.2
  | .bl b, v, fp, _, h => h.2
  | .int i, v, fp, _, h => h.2
  | .str x, v, fp, _, h => h.2
  | .tup xs, v, fp, p, h => by
    obtain ⟨a, vs, e, q, r⟩ := h
    exact rvs_pl xs vs fp p r
  | .lst xs, v, fp, _, h => by
    obtain ⟨a, vs, e, q, r, e2⟩ := h
    exact e2
  | .own xs, v, fp, p, h => by
    exact absurd p (by unfold Pm.pl; exact Bool.false_ne_true)
theorem rvs_pl : ∀ (ds : List D) (vs : List V) (fp : List Addr), pls ds = true → RVs K H ds vs fp → fp = []
  | [], vs, fp, _, h => h.2
  | d :: ds, vs, fp, p, h => by
    obtain ⟨v, r, f, g, e, q, t, e2⟩ := h
    unfold Pm.pls at p
    rw [Bool.and_eq_true] at p
    subst e2
    rw [rv_pl d v f p.1 q, rvs_pl ds r g p.2 t]
    rfl
end
end

/-- the slots bear the names' data; fe: the lists that they own -/
def RE (K : PySem.W.Frag) (H : Hp) : Ev → St → List Addr → Prop
  | [], s, fe => s = [] ∧ fe = []
  | none :: r, s, fe => ∃ x t, s = x :: t ∧ RE K H r t fe
  | some d :: r, s, fe => ∃ v t f g, s = some v :: t ∧ RV K H d v f ∧ RE K H r t g ∧ fe = f ++ g
section
variable {K : PySem.W.Frag} {H H' : Hp} {F : List Addr}
theorem RE.kp (k : Kp F H H') (m : ∀ a ∈ F, Mut (H a)) : ∀ {w : Ev} {s : St} {fe : List Addr}, (∀ a ∈ fe, a ∉ F) → RE K H w s fe → RE K H' w s fe
  | [], s, fe, _, h => h
  | none :: r, s, fe, hd, h => by
    obtain ⟨x, t, e, q⟩ := h
    exact ⟨x, t, e, RE.kp k m hd q⟩
  | some d :: r, s, fe, hd, h => by
    obtain ⟨v, t, f, g, e, q, q2, e2⟩ := h
    subst e2
    exact ⟨v, t, f, g, e, RV.kp k m d v f (fun b hb => hd b (List.mem_append_left _ hb)) q, RE.kp k m (fun b hb => hd b (List.mem_append_right _ hb)) q2, rfl⟩
theorem RE.mut : ∀ {w : Ev} {s : St} {fe : List Addr}, RE K H w s fe → ∀ a ∈ fe, Mut (H a)
  | [], s, fe, h => by obtain ⟨_, e⟩ := h; subst e; exact fun _ z => nomatch z
  | none :: r, s, fe, h => by
    obtain ⟨x, t, e, q⟩ := h
    exact RE.mut q
  | some d :: r, s, fe, h => by
    obtain ⟨v, t, f, g, e, q, q2, e2⟩ := h
    subst e2
    intro b hb
    rcases List.mem_append.mp hb with z | z
    · exact RV.mut d v f q b z
    · exact RE.mut q2 b z
theorem RE.length : ∀ {w : Ev} {s : St} {fe : List Addr}, RE K H w s fe → s.length = w.length
  | [], s, fe, h => by obtain ⟨e, _⟩ := h; subst e; rfl
  | none :: r, s, fe, h => by
    obtain ⟨x, t, e, q⟩ := h
    subst e
    rw [List.length_cons, List.length_cons, RE.length q]
  | some d :: r, s, fe, h => by
    obtain ⟨v, t, f, g, e, q, q2, e2⟩ := h
    subst e
    rw [List.length_cons, List.length_cons, RE.length q2]
/-- a slot's datum is taken out -/
theorem RE.take : ∀ {w : Ev} {s : St} {fe : List Addr} {i : Nat} {d : D}, RE K H w s fe → w[i]? = some (some d) →
    ∃ v f g, s[i]? = some (some v) ∧ RV K H d v f ∧ RE K H (w.set i none) s g ∧ fe.Perm (f ++ g)
  | [], s, fe, i, d, h, e => by simp at e
  | none :: r, s, fe, 0, d, h, e => by simp at e
  | none :: r, s, fe, i + 1, d, h, e => by
    obtain ⟨x, t, e1, q⟩ := h
    subst e1
    obtain ⟨v, f, g, h1, h2, h3, h4⟩ := RE.take (i := i) (d := d) q (by simpa using e)
    exact ⟨v, f, g, by simpa using h1, h2, ⟨x, t, rfl, h3⟩, h4⟩
  | some d0 :: r, s, fe, 0, d, h, e => by
    obtain ⟨v, t, f, g, e1, q, q2, e2⟩ := h
    simp at e
    subst e; subst e1; subst e2
    exact ⟨v, f, g, rfl, q, ⟨some v, t, rfl, q2⟩, .refl _⟩
  | some d0 :: r, s, fe, i + 1, d, h, e => by
    obtain ⟨v, t, f, g, e1, q, q2, e2⟩ := h
    subst e1; subst e2
    obtain ⟨v', f', g', h1, h2, h3, h4⟩ := RE.take (i := i) (d := d) q2 (by simpa using e)
    refine ⟨v', f', f ++ g', by simpa using h1, h2, ⟨v, t, f, g', rfl, q, h3, rfl⟩, ?_⟩
    refine (h4.append_left f).trans ?_
    rw [← List.append_assoc, ← List.append_assoc]
    exact (List.perm_append_comm (l₁ := f) (l₂ := f')).append_right g'
/-- a slot gets a datum (what it held is dropped) -/
theorem RE.put : ∀ {w : Ev} {s : St} {fe f : List Addr} {i : Nat} {d : D} {v : V}, RE K H w s fe → i < w.length → RV K H d v f →
    ∃ g, RE K H (w.set i (some d)) (s.set i (some v)) g ∧ ∃ g', (f ++ fe).Perm (g' ++ g)
  | [], s, fe, f, i, d, v, h, e, _ => by simp at e
  | none :: r, s, fe, f, 0, d, v, h, e, hv => by
    obtain ⟨x, t, e1, q⟩ := h
    subst e1
    exact ⟨f ++ fe, ⟨v, t, f, fe, rfl, hv, q, rfl⟩, [], .refl _⟩
  | none :: r, s, fe, f, i + 1, d, v, h, e, hv => by
    obtain ⟨x, t, e1, q⟩ := h
    subst e1
    obtain ⟨g, h1, g', h2⟩ := RE.put (i := i) q (by simpa using e) hv
    exact ⟨g, ⟨x, _, rfl, h1⟩, g', h2⟩
  | some d0 :: r, s, fe, f, 0, d, v, h, e, hv => by
    obtain ⟨v0, t, f0, g, e1, q, q2, e2⟩ := h
    subst e1; subst e2
    refine ⟨f ++ g, ⟨v, t, f, g, rfl, hv, q2, rfl⟩, f0, ?_⟩
    rw [← List.append_assoc, ← List.append_assoc]
    exact (List.perm_append_comm (l₁ := f) (l₂ := f0)).append_right g
  | some d0 :: r, s, fe, f, i + 1, d, v, h, e, hv => by
    obtain ⟨v0, t, f0, g, e1, q, q2, e2⟩ := h
    subst e1; subst e2
    obtain ⟨g1, h1, g', h2⟩ := RE.put (i := i) q2 (by simpa using e) hv
    refine ⟨f0 ++ g1, ⟨v0, _, f0, g1, rfl, q, h1, rfl⟩, g', ?_⟩
    have p1 : (f ++ (f0 ++ g)).Perm (f0 ++ (f ++ g)) := by
      rw [← List.append_assoc, ← List.append_assoc]
      exact (List.perm_append_comm (l₁ := f) (l₂ := f0)).append_right g
    have p2 : (f0 ++ (g' ++ g1)).Perm (g' ++ (f0 ++ g1)) := by
      rw [← List.append_assoc, ← List.append_assoc]
      exact (List.perm_append_comm (l₁ := f0) (l₂ := g')).append_right g1
    exact p1.trans ((h2.append_left f0).trans p2)
/-- a slot forgets -/
theorem RE.wipe : ∀ {w : Ev} {s : St} {fe : List Addr} (i : Nat), RE K H w s fe → ∃ g g', RE K H (w.set i none) s g ∧ fe.Perm (g' ++ g)
  | [], s, fe, i, h => ⟨fe, [], h, .refl _⟩
  | none :: r, s, fe, 0, h => ⟨fe, [], h, .refl _⟩
  | none :: r, s, fe, i + 1, h => by
    obtain ⟨x, t, e1, q⟩ := h
    subst e1
    obtain ⟨g, g', h1, h2⟩ := RE.wipe i q
    exact ⟨g, g', ⟨x, t, rfl, h1⟩, h2⟩
  | some d0 :: r, s, fe, 0, h => by
    obtain ⟨v0, t, f0, g, e1, q, q2, e2⟩ := h
    subst e1; subst e2
    exact ⟨g, f0, ⟨some v0, t, rfl, q2⟩, .refl _⟩
  | some d0 :: r, s, fe, i + 1, h => by
    obtain ⟨v0, t, f0, g, e1, q, q2, e2⟩ := h
    subst e1; subst e2
    obtain ⟨g1, g', h1, h2⟩ := RE.wipe i q2
    refine ⟨f0 ++ g1, g', ⟨v0, t, f0, g1, rfl, q, h1, rfl⟩, ?_⟩
    refine (h2.append_left f0).trans ?_
    rw [← List.append_assoc, ← List.append_assoc]
    exact (List.perm_append_comm (l₁ := f0) (l₂ := g')).append_right g1
/-- a slot's store, whose value was unknown -/
theorem RE.setNone : ∀ {w : Ev} {s : St} {fe : List Addr} (i : Nat) (x : Option V), RE K H w s fe → w[i]? = some none → RE K H w (s.set i x) fe
  | [], s, fe, i, x, h, e => by simp at e
  | none :: r, s, fe, 0, x, h, e => by
    obtain ⟨y, t, e1, q⟩ := h
    subst e1
    exact ⟨x, t, rfl, q⟩
  | none :: r, s, fe, i + 1, x, h, e => by
    obtain ⟨y, t, e1, q⟩ := h
    subst e1
    exact ⟨y, _, rfl, RE.setNone i x q (by simpa using e)⟩
  | some d0 :: r, s, fe, 0, x, h, e => by simp at e
  | some d0 :: r, s, fe, i + 1, x, h, e => by
    obtain ⟨v0, t, f0, g, e1, q, q2, e2⟩ := h
    subst e1; subst e2
    exact ⟨v0, _, f0, g, rfl, q, RE.setNone i x q2 (by simpa using e), rfl⟩
end

/-- the state: the names' data, and the data ds of values vs that are held beside; F: all that is owned -/
def Hold (K : PySem.W.Frag) (H : Hp) (w : Ev) (s : St) (ds : List D) (vs : List V) (F : List Addr) : Prop :=
  ∃ ft fe, RVs K H ds vs ft ∧ RE K H w s fe ∧ F.Perm (ft ++ fe) ∧ F.Nodup
section
variable {K : PySem.W.Frag} {H H' : Hp} {F F' : List Addr} {w w' : Ev} {s s' : St} {ds ds' : List D} {vs vs' : List V}
theorem Hold.mut (h : Hold K H w s ds vs F) : ∀ a ∈ F, Mut (H a) := by
  obtain ⟨ft, fe, h1, h2, p, nd⟩ := h
  intro a m
  rcases List.mem_append.mp (p.mem_iff.mp m) with z | z
  · exact RVs.mut _ _ _ h1 a z
  · exact h2.mut a z
theorem Hold.nd (h : Hold K H w s ds vs F) : F.Nodup := by
  obtain ⟨ft, fe, h1, h2, p, nd⟩ := h
  exact nd
/-- the held data are let go; F falls -/
theorem Hold.drop (h : Hold K H w s (ds ++ ds') (vs ++ vs') F) (hl : ds.length = vs.length) : ∃ F', Hold K H w s ds' vs' F' ∧ ∀ a ∈ F', a ∈ F := by
  obtain ⟨ft, fe, h1, h2, p, nd⟩ := h
  obtain ⟨vs1, vs2, f, g, e1, e2, q1, q2⟩ := RVs.split h1
  subst e2
  have hl2 := q1.length
  have e3 : vs = vs1 := by
    have := congrArg (List.take vs.length) e1
    rw [List.take_left, ← hl, hl2, List.take_left] at this
    exact this
  subst e3
  have e4 : vs' = vs2 := List.append_cancel_left e1
  subst e4
  refine ⟨g ++ fe, ⟨g, fe, q2, h2, .refl _, ?_⟩, fun a m => p.mem_iff.mpr ?_⟩
  · have := p.nodup_iff.mp nd
    rw [List.append_assoc] at this
    exact (List.nodup_append.mp this).2.1
  · rw [List.append_assoc]
    exact List.mem_append_right _ m
theorem Hold.drop0 (h : Hold K H w s ds vs F) : ∃ F', Hold K H w s [] [] F' ∧ ∀ a ∈ F', a ∈ F := by
  have hl : ds.length = vs.length := by
    obtain ⟨ft, fe, h1, _⟩ := h
    exact h1.length
  exact Hold.drop (ds' := []) (vs' := []) (by rw [List.append_nil, List.append_nil]; exact h) hl
/-- held data, and what a step from the rest of the state holds -/
theorem Hold.frame (h : Hold K H w s ds vs F) : ∃ F0, Hold K H w s [] [] F0 ∧ (∀ a ∈ F0, a ∈ F) ∧
    ∀ {H' : Hp} {w' : Ev} {s' : St} {ds' : List D} {vs' : List V} {F1 : List Addr}, Stp F0 H F1 H' → Hold K H' w' s' ds' vs' F1 →
      ∃ F', Hold K H' w' s' (ds ++ ds') (vs ++ vs') F' ∧ Stp F H F' H' := by
  have hm := h.mut
  obtain ⟨ft, fe, h1, h2, p, nd⟩ := h
  have nd2 := p.nodup_iff.mp nd
  obtain ⟨nd3, nd4, nd5⟩ := List.nodup_append.mp nd2
  refine ⟨fe, ⟨[], fe, ⟨rfl, rfl⟩, h2, .refl _, nd4⟩, fun a m => p.mem_iff.mpr (List.mem_append_right _ m), fun {H' w' s' ds' vs' F1} st h' => ?_⟩
  obtain ⟨ft', fe', h1', h2', p', nd'⟩ := h'
  have dj : ∀ a ∈ ft, a ∉ F1 := fun a m z => by
    rcases st.new a z with q | q
    · exact nd5 a m a q rfl
    · have := hm a (p.mem_iff.mpr (List.mem_append_left _ m))
      rw [q] at this; exact this
  have k1 : RVs K H' ds vs ft := RVs.kp st.keep (fun a m => hm a (p.mem_iff.mpr (List.mem_append_right _ m))) ds vs ft (fun a m z => nd5 a m a z rfl) h1
  refine ⟨ft ++ F1, ⟨ft ++ ft', fe', k1.append h1', h2', ?_, ?_⟩, ⟨fun a o e n => st.keep a o e fun z => n (p.mem_iff.mpr (List.mem_append_right _ z)), fun a m => ?_⟩⟩
  · rw [List.append_assoc]
    exact p'.append_left ft
  · exact List.nodup_append.mpr ⟨nd3, nd', fun a m b n e => dj a m (e ▸ n)⟩
  · rcases List.mem_append.mp m with z | z
    · exact .inl (p.mem_iff.mpr (List.mem_append_left _ z))
    · rcases st.new a z with q | q
      · exact .inl (p.mem_iff.mpr (List.mem_append_right _ q))
      · exact .inr q
end
end Pm

set_option autoImplicit true
namespace Pm
open PySem PySem.Spec L2

/-- an exception of a class of the program's, its fields fs -/
def ExR (K : PySem.W.Frag) (mg : Str → Option Value) (H : Hp) (c : Str) (fs : List (Str × D)) (cls : Value) (od : Option Addr) : Prop :=
  ∃ (C d : Addr) (us : List (Str × V)), cls = .ref C ∧ mg c = some (.ref C) ∧ od = some d ∧ H d = some (.xd us) ∧ ∀ f x, fs.lookup f = some x → ∃ v, us.lookup f = some v ∧ RV K H x v []

section
variable (K : PySem.W.Frag) (mg : Str → Option Value) (Eh : WX)
/-- what must hold behind code that ends as r -/
def Po (H : Hp) (F : List Addr) (s : L2.St) {α : Type} (r : Rs α) (Q : α → Ev → Prop) : Prop :=
  match r with
  | .ok a w => Q a w
  | .ex c fs w => ∀ cls od H' F', Stp F H F' H' → Hold K H' w s [] [] F' → ExR K mg H' c fs cls od → Eh cls od s H'
  | .bad => False
/-- an expression whose value is handed out with what it owns -/
def tP (f : PM D) : TE := fun s H Q => ∃ w F, Hold K H w s [] [] F ∧ Po K mg Eh H F s (f w) fun d w' => ∀ v H' F', Stp F H F' H' → Hold K H' w' s [d] [v] F' → Q v H'
/-- a list of them -/
def tA (f : PM (List D)) : TA := fun s H Q => ∃ w F, Hold K H w s [] [] F ∧ Po K mg Eh H F s (f w) fun ds w' => ∀ vs H' F', Stp F H F' H' → Hold K H' w' s ds vs F' → Q vs H'
/-- a test -/
def tT (f : PM Bool) : TT := fun s H Q => ∃ w F, Hold K H w s [] [] F ∧ Po K mg Eh H F s (f w) fun b w' => ∀ H' F', Stp F H F' H' → Hold K H' w' s [] [] F' → Q b H'
/-- a place: nothing happens, the value stays where it is -/
def tB (K : PySem.W.Frag) (q : Ev → Option D) : TE := fun s H Q => ∃ w F d, Hold K H w s [] [] F ∧ q w = some d ∧ ∀ v f, RV K H d v f → (∀ a ∈ f, a ∈ F) → Q v H
end
def slot (w : Ev) (j : Nat) : Option D := match w[j]? with
  | some (some d) => some d
  | _ => none
theorem slot_some {w : Ev} {j : Nat} {d : D} (h : slot w j = some d) : w[j]? = some (some d) := by
  unfold slot at h
  split at h
  · rename_i e; rw [e]; cases h; rfl
  · cases h
/-- a name's slot -/
def tV (K : PySem.W.Frag) (j : Nat) : TE := fun s H Q => ∃ w F d, Hold K H w s [] [] F ∧ slot w j = some d ∧ ∀ v, s[j]? = some (some v) → Q v H

section
variable {X : Cx} {Eh : WX}
theorem _root_.L2.PE.imp {e : Expr} {t t' : TE} (h : PE X e t) (i : ∀ s H Q, t' s H Q → t s H Q) : PE X e t' := ⟨fun pins s σ H Q I q => h.run pins s σ H Q I (i _ _ _ q)⟩
theorem _root_.L2.PT.imp {e : Expr} {t t' : TT} (h : PT X e t) (i : ∀ s H Q, t' s H Q → t s H Q) : PT X e t' := ⟨fun pins s σ H Q I q => h.run pins s σ H Q I (i _ _ _ q)⟩
theorem _root_.L2.PW.imp {e : Expr} {t t' : TT} (h : PW X e t) (i : ∀ s H Q, t' s H Q → t s H Q) : PW X e t' := ⟨fun wh pins s σ H Q I q => h.run wh pins s σ H Q I (i _ _ _ q)⟩
theorem _root_.L2.PA.imp {es : List Expr} {t t' : TA} (h : PA X es t) (i : ∀ s H Q, t' s H Q → t s H Q) : PA X es t' := ⟨fun pos pins s σ H Q I q => h.run pos pins s σ H Q I (i _ _ _ q)⟩
theorem _root_.L2.PS.imp {e : Stmt} {t t' : TS} (h : PS X e t) (i : ∀ D s H, t' D s H → t D s H) : PS X e t' := ⟨fun pins s σ H D I q => h.run pins s σ H D I (i _ _ _ q)⟩
theorem _root_.L2.PSs.imp {e : List Stmt} {t t' : TS} (h : PSs X e t) (i : ∀ D s H, t' D s H → t D s H) : PSs X e t' := ⟨fun pins s σ H D I q => h.run pins s σ H D I (i _ _ _ q)⟩

variable {H H1 H2 : Hp} {F F1 F2 : List Addr} {s : L2.St} {α β : Type}
theorem Stp.mono {F F' F0 : List Addr} {H H' : Hp} (h : Stp F0 H F' H') (m : ∀ a ∈ F0, a ∈ F) : Stp F H F' H' :=
  ⟨fun a o e n => h.keep a o e fun z => n (m a z), fun a q => (h.new a q).imp (m a) id⟩
/-- a part of code runs, data ds held beside it -/
theorem tP_run {f : PM D} {k : D → Ev → Rs β} {Q' : β → Ev → Prop} {R : VK} {w1 : Ev} {ds : List D} {vs : List V}
    (hold : Hold X.K H1 w1 s ds vs F1) (st : Stp F H F1 H1) (h : Po X.K X.mg Eh H F s ((f w1).bind k) Q')
    (c : ∀ d w2 v H2 F2, f w1 = .ok d w2 → Stp F H F2 H2 → Hold X.K H2 w2 s (ds ++ [d]) (vs ++ [v]) F2 → Po X.K X.mg Eh H F s (k d w2) Q' → R v H2) : tP X.K X.mg Eh f s H1 R := by
  obtain ⟨F0, h0, sub, fr⟩ := hold.frame
  refine ⟨w1, F0, h0, ?_⟩
  cases e : f w1 with
  | ok d w2 =>
    rw [e] at h
    intro v H' F' st' h'
    obtain ⟨F2, h2, st2⟩ := fr st' h'
    exact c d w2 v H' F2 e (st.trans st2) h2 h
  | ex cc fs w2 =>
    rw [e] at h
    intro cls od H' F' st' h' x
    exact h cls od H' F' (st.trans (st'.mono sub)) h' x
  | bad => rw [e] at h; exact h
theorem tA_run {f : PM (List D)} {k : List D → Ev → Rs β} {Q' : β → Ev → Prop} {R : List V → Hp → Prop} {w1 : Ev} {ds : List D} {vs : List V}
    (hold : Hold X.K H1 w1 s ds vs F1) (st : Stp F H F1 H1) (h : Po X.K X.mg Eh H F s ((f w1).bind k) Q')
    (c : ∀ es w2 us H2 F2, f w1 = .ok es w2 → Stp F H F2 H2 → Hold X.K H2 w2 s (ds ++ es) (vs ++ us) F2 → Po X.K X.mg Eh H F s (k es w2) Q' → R us H2) : tA X.K X.mg Eh f s H1 R := by
  obtain ⟨F0, h0, sub, fr⟩ := hold.frame
  refine ⟨w1, F0, h0, ?_⟩
  cases e : f w1 with
  | ok d w2 =>
    rw [e] at h
    intro v H' F' st' h'
    obtain ⟨F2, h2, st2⟩ := fr st' h'
    exact c d w2 v H' F2 e (st.trans st2) h2 h
  | ex cc fs w2 =>
    rw [e] at h
    intro cls od H' F' st' h' x
    exact h cls od H' F' (st.trans (st'.mono sub)) h' x
  | bad => rw [e] at h; exact h
theorem tT_run {f : PM Bool} {k : Bool → Ev → Rs β} {Q' : β → Ev → Prop} {R : Bool → Hp → Prop} {w1 : Ev} {ds : List D} {vs : List V}
    (hold : Hold X.K H1 w1 s ds vs F1) (st : Stp F H F1 H1) (h : Po X.K X.mg Eh H F s ((f w1).bind k) Q')
    (c : ∀ b w2 H2 F2, f w1 = .ok b w2 → Stp F H F2 H2 → Hold X.K H2 w2 s ds vs F2 → Po X.K X.mg Eh H F s (k b w2) Q' → R b H2) : tT X.K X.mg Eh f s H1 R := by
  obtain ⟨F0, h0, sub, fr⟩ := hold.frame
  refine ⟨w1, F0, h0, ?_⟩
  cases e : f w1 with
  | ok d w2 =>
    rw [e] at h
    intro H' F' st' h'
    obtain ⟨F2, h2, st2⟩ := fr st' h'
    rw [List.append_nil, List.append_nil] at h2
    exact c d w2 H' F2 e (st.trans st2) h2 h
  | ex cc fs w2 =>
    rw [e] at h
    intro cls od H' F' st' h' x
    exact h cls od H' F' (st.trans (st'.mono sub)) h' x
  | bad => rw [e] at h; exact h
theorem Hold.atSlot {K : PySem.W.Frag} {w : Ev} {ds : List D} {vs : List V} {j : Nat} {d : D} (h : Hold K H w s ds vs F) (e : slot w j = some d) : ∃ v f, s[j]? = some (some v) ∧ RV K H d v f ∧ ∀ a ∈ f, a ∈ F := by
  obtain ⟨ft, fe, h1, h2, p, nd⟩ := h
  obtain ⟨v, f, g, a, b, _, q⟩ := h2.take (slot_some e)
  exact ⟨v, f, a, b, fun c m => p.mem_iff.mpr (List.mem_append_right _ (q.mem_iff.mpr (List.mem_append_left _ m)))⟩
theorem tV_run {R : VK} {w1 : Ev} {ds : List D} {vs : List V} {j : Nat} {d : D}
    (hold : Hold X.K H1 w1 s ds vs F1) (e : slot w1 j = some d) (c : ∀ v f, s[j]? = some (some v) → RV X.K H1 d v f → (∀ a ∈ f, a ∈ F1) → R v H1) : tV X.K j s H1 R := by
  obtain ⟨F0, h0, sub, fr⟩ := hold.frame
  obtain ⟨v0, f, e0, r, m⟩ := hold.atSlot e
  refine ⟨w1, F0, d, h0, e, fun v hv => ?_⟩
  rw [e0] at hv
  cases hv
  exact c _ f e0 r m
theorem tB_run {R : VK} {w1 : Ev} {ds : List D} {vs : List V} {q : Ev → Option D} {d : D}
    (hold : Hold X.K H1 w1 s ds vs F1) (e : q w1 = some d) (c : ∀ v f, RV X.K H1 d v f → (∀ a ∈ f, a ∈ F1) → R v H1) : tB X.K q s H1 R := by
  obtain ⟨F0, h0, sub, fr⟩ := hold.frame
  exact ⟨w1, F0, d, h0, e, fun v f r m => c v f r fun a z => sub a (m a z)⟩

/-- new: all that was is kept, the value owns new things alone -/
def NewV (K : PySem.W.Frag) (H H' : Hp) (z : D) (v : V) : Prop := Kp [] H H' ∧ ∃ f, RV K H' z v f ∧ f.Nodup ∧ ∀ a ∈ f, H a = none
theorem NewV.plain {K : PySem.W.Frag} {z : D} {v : V} (h : RV K H z v []) : NewV K H H z v := ⟨fun _ _ e _ => e, [], h, .nil, fun _ z => nomatch z⟩
theorem NewV.mine {K : PySem.W.Frag} {z : D} {v : V} {f : List Addr} (h : RV K H z v f) (p : pl z = true) : NewV K H H z v := by
  have e := rv_pl z v f p h
  subst e
  exact .plain h
theorem fin_new {w : Ev} {z : D} {v : V} {Q : VK} {ds : List D} {vs : List V} (q : ∀ v H' F', Stp F H F' H' → Hold X.K H' w s [z] [v] F' → Q v H') (st : Stp F H F2 H2) (hold : Hold X.K H2 w s ds vs F2) (n : NewV X.K H2 H1 z v) : Q v H1 := by
  obtain ⟨F0, h0, sub⟩ := hold.drop0
  have hm := h0.mut
  obtain ⟨k, f, rv, nd, fr⟩ := n
  obtain ⟨ft, fe, h1, h2, p, nd0⟩ := h0
  have e0 : ft = [] := h1.2
  subst e0
  have k2 : RE X.K H1 w s fe := h2.kp (F := []) k (fun _ z => nomatch z) fun _ _ z => nomatch z
  refine q v H1 (f ++ fe) (st.trans (F1 := F2) ⟨fun a o e n => k a o e (fun z => nomatch z), fun a m => ?_⟩) ⟨f, fe, RVs.one rv, k2, .refl _, ?_⟩
  · rcases List.mem_append.mp m with z | z
    · exact .inr (fr a z)
    · exact .inl (sub a (p.mem_iff.mpr z))
  · refine List.nodup_append.mpr ⟨nd, p.nodup_iff.mp nd0, fun a m b m2 e => ?_⟩
    subst e
    have := hm a (p.mem_iff.mpr m2)
    rw [fr a m] at this
    exact this

/-! ### constants and names -/
def xC (d : D) : PM D := fun w => .ok d w
theorem pp_c {e : Expr} {v : V} {d : D} (h : PE X e (tC v)) (r : ∀ K H, RV K H d v []) : PE X e (tP X.K X.mg Eh (xC d)) := h.imp fun s H Q ⟨w, F, hold, q⟩ =>
  fin_new q (Stp.refl fun _ m => m) hold (.plain (r _ _))
theorem pp_int {i j pos} : PE X (.Constant (.int i) j pos) (tP X.K X.mg Eh (xC (.int i))) := pp_c pe_int fun _ _ => ⟨rfl, rfl⟩
theorem pp_bl {b j pos} : PE X (.Constant (.bool b) j pos) (tP X.K X.mg Eh (xC (.bl b))) := pp_c pe_bl fun _ _ => ⟨rfl, rfl⟩
theorem pp_non {j pos} : PE X (.Constant .none j pos) (tP X.K X.mg Eh (xC .non)) := pp_c pe_non fun _ _ => ⟨rfl, rfl⟩
theorem pp_str {x j pos} : PE X (.Constant (.str x) j pos) (tP X.K X.mg Eh (xC (.str x))) := pp_c pe_str fun _ _ => ⟨rfl, rfl⟩
def qV (j : Nat) : Ev → Option D := fun w => slot w j
theorem pv_var {e : Expr} {j : Nat} (h : PE X e (tVar j)) : PE X e (tV X.K j) := h.imp fun s H Q ⟨w, F, d, hold, e, q⟩ => by
  obtain ⟨v, f, e1, r, m⟩ := hold.atSlot e
  exact ⟨v, e1, q v e1⟩
theorem pb_var {e : Expr} {j : Nat} (h : PE X e (tVar j)) : PE X e (tB X.K (qV j)) := h.imp fun s H Q ⟨w, F, d, hold, e, q⟩ => by
  obtain ⟨v, f, e1, r, m⟩ := hold.atSlot e
  exact ⟨v, e1, q v f r m⟩
/-- a place's value, which owns nothing -/
def xP (q : Ev → Option D) : PM D := fun w => match q w with
  | some d => if pl d = true then .ok d w else .bad
  | none => .bad
theorem xP_ok {q : Ev → Option D} {w : Ev} {d : D} (h : q w = some d) (p : pl d = true) : xP q w = .ok d w := by unfold xP; rw [h]; exact if_pos p
theorem pp_place {e : Expr} {q : Ev → Option D} (h : PE X e (tB X.K q)) : PE X e (tP X.K X.mg Eh (xP q)) := h.imp fun s H Q ⟨w, F, hold, q0⟩ => by
  cases e : q w with
  | none => rw [show xP q w = .bad by unfold xP; rw [e]] at q0; exact q0.elim
  | some d =>
    by_cases p : pl d = true
    · rw [xP_ok e p] at q0
      exact ⟨w, F, d, hold, e, fun v f r m => fin_new q0 (Stp.refl fun _ m => m) hold (.mine r p)⟩
    · rw [show xP q w = .bad by unfold xP; rw [e]; exact if_neg p] at q0; exact q0.elim
/-- an owned thing leaves its slot -/
def xT (j : Nat) : PM D := fun w => match slot w j with
  | some d => .ok d (w.set j none)
  | none => .bad
theorem pp_take {e : Expr} {j : Nat} (h : PE X e (tVar j)) : PE X e (tP X.K X.mg Eh (xT j)) := h.imp fun s H Q ⟨w, F, hold, q0⟩ => by
  cases e : slot w j with
  | none => rw [show xT j w = .bad by unfold xT; rw [e]] at q0; exact q0.elim
  | some d =>
    rw [show xT j w = .ok d (w.set j none) by unfold xT; rw [e]] at q0
    obtain ⟨ft, fe, h1, h2, p, nd⟩ := hold
    have e0 : ft = [] := h1.2
    subst e0
    obtain ⟨v, f, g, a, b, c, pp⟩ := h2.take (slot_some e)
    refine ⟨v, a, q0 v H F (Stp.refl fun _ m => m) ⟨f, g, RVs.one b, c, p.trans pp, nd⟩⟩

/-! ### operations that read -/
def Ro1 (K : PySem.W.Frag) (r : V → Hp → VK → Prop) (op : D → Option D) : Prop := ∀ H x dx fx z Q, RV K H dx x fx → op dx = some z → (∀ v H', NewV K H H' z v → Q v H') → r x H Q
def Ro2 (K : PySem.W.Frag) (r : V → V → Hp → VK → Prop) (op : D → D → Option D) : Prop := ∀ H x y dx dy fx fy z Q, RV K H dx x fx → RV K H dy y fy → op dx dy = some z → (∀ v H', NewV K H H' z v → Q v H') → r x y H Q
def back (o : Option D) (w : Ev) : Rs D := match o with
  | some z => .ok z w
  | none => .bad
@[simp] theorem back_some (z : D) (w : Ev) : back (some z) w = .ok z w := rfl
@[simp] theorem back_none (w : Ev) : back none w = .bad := rfl
def x1g (op : D → Option D) (f : PM D) : PM D := fun w => (f w).bind fun x w1 => back (op x) w1
def x1p (op : D → Option D) (q : Ev → Option D) : PM D := fun w => back ((q w).bind op) w
def x2gg (op : D → D → Option D) (f g : PM D) : PM D := fun w => (f w).bind fun x w1 => (g w1).bind fun y w2 => back (op x y) w2
def x2gp (op : D → D → Option D) (f : PM D) (q : Ev → Option D) : PM D := fun w => (f w).bind fun x w1 => back ((q w1).bind (op x)) w1
def x2vg (op : D → D → Option D) (j : Nat) (g : PM D) : PM D := fun w => match slot w j with
  | some _ => (g w).bind fun y w2 => back ((slot w2 j).bind fun x => op x y) w2
  | none => .bad
def x2pp (op : D → D → Option D) (q1 q2 : Ev → Option D) : PM D := fun w => back ((q1 w).bind fun x => (q2 w).bind (op x)) w

theorem Hold.last {K : PySem.W.Frag} {w : Ev} {ds : List D} {vs : List V} {d : D} {v : V} (h : Hold K H w s (ds ++ [d]) (vs ++ [v]) F) (hl : ds.length = vs.length) : ∃ f, RV K H d v f ∧ ∀ a ∈ f, a ∈ F := by
  obtain ⟨F', h', sub⟩ := h.drop hl
  obtain ⟨ft, fe, h1, h2, p, nd⟩ := h'
  exact ⟨ft, h1.one', fun a m => sub a (p.mem_iff.mpr (List.mem_append_left _ m))⟩
theorem Hold.two {K : PySem.W.Frag} {w : Ev} {d e : D} {v u : V} (h : Hold K H w s [d, e] [v, u] F) : ∃ f g, RV K H d v f ∧ RV K H e u g ∧ (∀ a ∈ f, a ∈ F) ∧ ∀ a ∈ g, a ∈ F := by
  obtain ⟨ft, fe, h1, h2, p, nd⟩ := h
  obtain ⟨v', r, f, g, e1, q, q2, e2⟩ := h1
  injection e1 with e3 e4
  subst e3; subst e4; subst e2
  exact ⟨f, g, q, q2.one', fun a m => p.mem_iff.mpr (List.mem_append_left _ (List.mem_append_left _ m)), fun a m => p.mem_iff.mpr (List.mem_append_left _ (List.mem_append_right _ m))⟩
theorem Hold.one {K : PySem.W.Frag} {w : Ev} {d : D} {v : V} (h : Hold K H w s [d] [v] F) : ∃ f, RV K H d v f ∧ ∀ a ∈ f, a ∈ F := Hold.last (ds := []) (vs := []) h rfl
theorem back_po {o : Option D} {w : Ev} {Q : D → Ev → Prop} (h : Po X.K X.mg Eh H F s (back o w) Q) : ∃ z, o = some z ∧ Q z w := by
  cases o with
  | none => exact h.elim
  | some z => exact ⟨z, rfl, h⟩
theorem imp1g {r : V → Hp → VK → Prop} {op : D → Option D} {f : PM D} (hr : Ro1 X.K r op) {Q : VK} (h : tP X.K X.mg Eh (x1g op f) s H Q) : tP X.K X.mg Eh f s H fun x H1 => r x H1 Q := by
  obtain ⟨w, F, hold, q⟩ := h
  refine tP_run hold (Stp.refl fun _ m => m) q fun d w2 v H2 F2 e st h2 q2 => ?_
  obtain ⟨z, hz, q3⟩ := back_po q2
  obtain ⟨fx, rx, _⟩ := Hold.one h2
  exact hr H2 v d fx z Q rx hz fun u H' n => fin_new q3 st h2 n
theorem imp1p {r : V → Hp → VK → Prop} {op : D → Option D} {p : Ev → Option D} (hr : Ro1 X.K r op) {Q : VK} (h : tP X.K X.mg Eh (x1p op p) s H Q) : tB X.K p s H fun x H1 => r x H1 Q := by
  obtain ⟨w, F, hold, q⟩ := h
  obtain ⟨z, hz, q3⟩ := back_po q
  obtain ⟨d, hd, hz⟩ := Option.bind_eq_some_iff.mp hz
  exact tB_run hold hd fun v f r m => hr H v d f z Q r hz fun u H' n => fin_new q3 (Stp.refl fun _ m => m) hold n
theorem imp2gg {r : V → V → Hp → VK → Prop} {op : D → D → Option D} {f g : PM D} (hr : Ro2 X.K r op) {Q : VK} (h : tP X.K X.mg Eh (x2gg op f g) s H Q) :
    tP X.K X.mg Eh f s H fun x H1 => tP X.K X.mg Eh g s H1 fun y H2 => r x y H2 Q := by
  obtain ⟨w, F, hold, q⟩ := h
  refine tP_run hold (Stp.refl fun _ m => m) q fun d w2 v H2 F2 e st h2 q2 => ?_
  refine tP_run h2 st q2 fun d' w3 v' H3 F3 e' st' h3 q3 => ?_
  obtain ⟨z, hz, q4⟩ := back_po q3
  obtain ⟨fx, fy, rx, ry, _⟩ := Hold.two h3
  exact hr H3 v v' d d' fx fy z Q rx ry hz fun u H' n => fin_new q4 st' h3 n
theorem imp2gp {r : V → V → Hp → VK → Prop} {op : D → D → Option D} {f : PM D} {p : Ev → Option D} (hr : Ro2 X.K r op) {Q : VK} (h : tP X.K X.mg Eh (x2gp op f p) s H Q) :
    tP X.K X.mg Eh f s H fun x H1 => tB X.K p s H1 fun y H2 => r x y H2 Q := by
  obtain ⟨w, F, hold, q⟩ := h
  refine tP_run hold (Stp.refl fun _ m => m) q fun d w2 v H2 F2 e st h2 q2 => ?_
  obtain ⟨z, hz, q3⟩ := back_po q2
  obtain ⟨d', hd, hz⟩ := Option.bind_eq_some_iff.mp hz
  obtain ⟨fx, rx, _⟩ := Hold.one h2
  exact tB_run h2 hd fun v' f r m => hr H2 v v' d d' fx f z Q rx r hz fun u H' n => fin_new q3 st h2 n
theorem imp2vg {r : V → V → Hp → VK → Prop} {op : D → D → Option D} {j : Nat} {g : PM D} (hr : Ro2 X.K r op) {Q : VK} (h : tP X.K X.mg Eh (x2vg op j g) s H Q) :
    tV X.K j s H fun x H1 => tP X.K X.mg Eh g s H1 fun y H2 => r x y H2 Q := by
  obtain ⟨w, F, hold, q⟩ := h
  unfold x2vg at q
  cases e : slot w j with
  | none => rw [e] at q; exact q.elim
  | some d0 =>
    rw [e] at q
    refine tV_run hold e fun v f ej _ _ => ?_
    refine tP_run hold (Stp.refl fun _ m => m) q fun d' w3 v' H3 F3 e' st' h3 q3 => ?_
    obtain ⟨z, hz, q4⟩ := back_po q3
    obtain ⟨d, hd, hz⟩ := Option.bind_eq_some_iff.mp hz
    obtain ⟨v2, f2, ej2, r2, _⟩ := h3.atSlot hd
    rw [ej] at ej2
    cases ej2
    obtain ⟨fy, ry, _⟩ := Hold.one h3
    exact hr H3 v v' d d' f2 fy z Q r2 ry hz fun u H' n => fin_new q4 st' h3 n
theorem imp2pp {r : V → V → Hp → VK → Prop} {op : D → D → Option D} {p p' : Ev → Option D} (hr : Ro2 X.K r op) {Q : VK} (h : tP X.K X.mg Eh (x2pp op p p') s H Q) :
    tB X.K p s H fun x H1 => tB X.K p' s H1 fun y H2 => r x y H2 Q := by
  obtain ⟨w, F, hold, q⟩ := h
  obtain ⟨z, hz, q3⟩ := back_po q
  obtain ⟨d, hd, hz⟩ := Option.bind_eq_some_iff.mp hz
  obtain ⟨d', hd', hz⟩ := Option.bind_eq_some_iff.mp hz
  exact tB_run hold hd fun v f r m => tB_run hold hd' fun v' f' r' m' => hr H v v' d d' f f' z Q r r' hz fun u H' n => fin_new q3 (Stp.refl fun _ m => m) hold n

/-! ### lists of arguments, handed over -/
def xNil : PM (List D) := fun w => .ok [] w
def xCons (f : PM D) (g : PM (List D)) : PM (List D) := fun w => (f w).bind fun d w1 => (g w1).bind fun ds w2 => .ok (d :: ds) w2
theorem pa0 : PA X [] (tA X.K X.mg Eh xNil) := pa_nil.imp fun s H Q ⟨w, F, hold, q⟩ => q [] H F (Stp.refl fun _ m => m) hold
theorem pa1 {e : Expr} {es : List Expr} {f : PM D} {g : PM (List D)} (h : PE X e (tP X.K X.mg Eh f)) (hr : PA X es (tA X.K X.mg Eh g)) (hs : starEach (e :: es) X.env = (false, eval e X.env) :: starEach es X.env := by rfl) : PA X (e :: es) (tA X.K X.mg Eh (xCons f g)) :=
  (pa_cons h hr hs).imp fun s H Q ⟨w, F, hold, q⟩ => by
    refine tP_run hold (Stp.refl fun _ m => m) q fun d w2 v H2 F2 e st h2 q2 => ?_
    refine tA_run h2 st q2 fun ds w3 vs H3 F3 e' st' h3 q3 => ?_
    exact q3 (v :: vs) H3 F3 st' h3
end
end Pm

set_option autoImplicit true
namespace Pm
open PySem PySem.Spec L2

section
variable {K : PySem.W.Frag} {H : Hp}
theorem new_tup {xs : List D} {vs : List V} {p : Addr} (r : RVs K H xs vs []) (n : H p = none) : NewV K H (upd H p (.tup vs)) (.tup xs) (.ref p) := by
  have k : Kp [] H (upd H p (.tup vs)) := fun a o e _ => by rw [upd_ne (ne_of_none e n)]; exact e
  exact ⟨k, [], ⟨p, vs, rfl, .inl (.inl upd_same), RVs.kp k (fun _ z => nomatch z) _ _ _ (fun _ z => nomatch z) r⟩, .nil, fun _ z => nomatch z⟩
theorem new_own {xs : List D} {vs : List V} {p : Addr} (r : RVs K H xs vs []) (n : H p = none) : NewV K H (upd H p (.lst vs)) (.own xs) (.ref p) := by
  have k : Kp [] H (upd H p (.lst vs)) := fun a o e _ => by rw [upd_ne (ne_of_none e n)]; exact e
  refine ⟨k, [p], ⟨p, vs, [], rfl, upd_same, RVs.kp k (fun _ z => nomatch z) _ _ _ (fun _ z => nomatch z) r, rfl⟩, by simp, fun a m => ?_⟩
  have e : a = p := by simpa using m
  rw [e]; exact n
theorem RVs.nil_of {xs : List D} {vs : List V} {f : List Addr} (r : RVs K H xs vs f) (p : pls xs = true) : RVs K H xs vs [] := by
  have e := rvs_pl xs vs f p r
  subst e
  exact r
theorem RV.nil_of {d : D} {v : V} {f : List Addr} (r : RV K H d v f) (p : pl d = true) : RV K H d v [] := by
  have e := rv_pl d v f p r
  subst e
  exact r
end
theorem pls_get : ∀ {xs : List D} {i : Nat} {d : D}, pls xs = true → xs[i]? = some d → pl d = true
  | [], i, d, _, e => by simp at e
  | x :: xs, 0, d, p, e => by
    unfold pls at p
    rw [Bool.and_eq_true] at p
    simp at e; subst e; exact p.1
  | x :: xs, i + 1, d, p, e => by
    unfold pls at p
    rw [Bool.and_eq_true] at p
    exact pls_get (i := i) p.2 (by simpa using e)
theorem pls_append {xs ys : List D} : pls (xs ++ ys) = (pls xs && pls ys) := by
  induction xs with
  | nil => rfl
  | cons x xs ih => show (pl x && pls (xs ++ ys)) = _; rw [ih, ← Bool.and_assoc]; rfl
theorem pls_all {xs : List D} : pls xs = true ↔ ∀ d ∈ xs, pl d = true := by
  induction xs with
  | nil => exact Iff.intro (fun _ d m => absurd m (by simp)) (fun _ => rfl)
  | cons x xs ih =>
    show (pl x && pls xs) = true ↔ _
    rw [Bool.and_eq_true, ih]
    exact ⟨fun ⟨a, b⟩ d m => (List.mem_cons.mp m).elim (fun e => e ▸ a) (b d), fun h => ⟨h x List.mem_cons_self, fun d m => h d (List.mem_cons_of_mem _ m)⟩⟩

/-- the items of a list or tuple -/
def seqD : D → Option (List D)
  | .tup xs => some xs
  | .lst xs => some xs
  | .own xs => some xs
  | _ => none
theorem seqD_rv {K : PySem.W.Frag} {H : Hp} {d : D} {v : V} {f : List Addr} {xs : List D} (r : RV K H d v f) (e : seqD d = some xs) : ∃ a vs g, v = .ref a ∧ (SqL K H a vs ∨ SqT K H a vs) ∧ RVs K H xs vs g := by
  cases d with
  | tup ys => cases e; obtain ⟨a, vs, e, q, r⟩ := r; exact ⟨a, vs, f, e, .inr q, r⟩
  | lst ys => cases e; obtain ⟨a, vs, e, q, r, _⟩ := r; exact ⟨a, vs, [], e, .inl q.sq, r⟩
  | own ys => cases e; obtain ⟨a, vs, g, e, q, r, _⟩ := r; exact ⟨a, vs, g, e, .inl (.of q), r⟩
  | non => cases e
  | bl b => cases e
  | int i => cases e
  | str x => cases e

/-! ### ints -/
def dI (g : Int → Int → Option D) : D → D → Option D
  | .int i, .int j => g i j
  | _, _ => none
theorem dI_some {g : Int → Int → Option D} {x y z : D} (h : dI g x y = some z) : ∃ i j, x = .int i ∧ y = .int j ∧ g i j = some z := by
  cases x <;> cases y <;> first
    | exact ⟨_, _, rfl, rfl, h⟩
    | cases h
theorem ro_I0 {K : PySem.W.Frag} {g : Int → Int → Int} : Ro2 K (rI0 fun i j => .int (g i j)) (dI fun i j => some (.int (g i j))) := fun H x y dx dy fx fy z Q rx ry e q => by
  obtain ⟨i, j, rfl, rfl, e⟩ := dI_some e
  cases e
  exact ⟨i, j, rx.1, ry.1, q _ _ (.plain ⟨rfl, rfl⟩)⟩
theorem ro_B0 {K : PySem.W.Frag} {g : Int → Int → Bool} : Ro2 K (rI0 fun i j => .bl (g i j)) (dI fun i j => some (.bl (g i j))) := fun H x y dx dy fx fy z Q rx ry e q => by
  obtain ⟨i, j, rfl, rfl, e⟩ := dI_some e
  cases e
  exact ⟨i, j, rx.1, ry.1, q _ _ (.plain ⟨rfl, rfl⟩)⟩
theorem ro_IC {K : PySem.W.Frag} {C : Int → Int → Prop} {g : Int → Int → Int} {c : Int → Int → Bool} (hc : ∀ i j, c i j = true → C i j) : Ro2 K (rI C fun i j => .int (g i j)) (dI fun i j => if c i j = true then some (.int (g i j)) else none) := fun H x y dx dy fx fy z Q rx ry e q => by
  obtain ⟨i, j, hx, hy, e2⟩ := dI_some e
  clear e
  subst hx; subst hy
  replace e2 : (if c i j = true then some (D.int (g i j)) else none) = some z := e2
  by_cases h : c i j = true
  · rw [if_pos h] at e2
    cases e2
    exact ⟨i, j, rx.1, ry.1, hc i j h, q _ _ (.plain ⟨rfl, rfl⟩)⟩
  · rw [if_neg h] at e2; cases e2
theorem Ro2.or {K : PySem.W.Frag} {r r' : R2} {op op' : D → D → Option D} (h : Ro2 K r op) (h' : Ro2 K r' op') : Ro2 K (fun x y H Q => r x y H Q ∨ r' x y H Q) fun x y => (op x y).orElse fun _ => op' x y := fun H x y dx dy fx fy z Q rx ry e q => by
  replace e : ((op dx dy).orElse fun _ => op' dx dy) = some z := e
  cases e1 : op dx dy with
  | some z1 => rw [e1] at e; cases e; exact .inl (h H x y dx dy fx fy z Q rx ry e1 q)
  | none => rw [e1] at e; exact .inr (h' H x y dx dy fx fy z Q rx ry e q)
theorem Ro2.ext {K : PySem.W.Frag} {r : R2} {op op' : D → D → Option D} (h : Ro2 K r op) (e : ∀ x y, op' x y = op x y) : Ro2 K r op' := fun H x y dx dy fx fy z Q rx ry e1 q => h H x y dx dy fx fy z Q rx ry (by rw [← e]; exact e1) q

/-! ### + -/
def dCatT : D → D → Option D
  | .tup xs, .tup ys => if pls xs = true ∧ pls ys = true ∧ xs.length + ys.length ≤ sizeLine then some (.tup (xs ++ ys)) else none
  | _, _ => none
theorem ro_catT {K : PySem.W.Frag} : Ro2 K (rCatA K) dCatT := fun H x y dx dy fx fy z Q rx ry e q => by
  cases dx <;> cases dy <;> first
    | cases e
    | skip
  rename_i xs ys
  dsimp only [dCatT] at e
  by_cases c : pls xs = true ∧ pls ys = true ∧ xs.length + ys.length ≤ sizeLine
  · rw [if_pos c] at e
    cases e
    obtain ⟨a, vs, ea, qa, ra⟩ := rx
    obtain ⟨b, us, eb, qb, rb⟩ := ry
    have ra0 := ra.nil_of c.1
    have rb0 := rb.nil_of c.2.1
    have la := ra.length
    have lb := rb.length
    refine ⟨a, b, vs, us, ea, eb, qa, qb, by omega, fun h => ?_, fun h h2 => ?_, fun h h2 p n => ?_⟩
    · have h0 : xs = [] := List.length_eq_zero_iff.mp (by rw [la, h]; rfl)
      subst h0
      exact q _ _ (.plain ⟨b, us, rfl, qb, rb0⟩)
    · have h0 : ys = [] := List.length_eq_zero_iff.mp (by rw [lb, h2]; rfl)
      subst h0
      rw [List.append_nil] at q
      exact q _ _ (.plain ⟨a, vs, rfl, qa, ra0⟩)
    · exact q _ _ (new_tup (by exact ra0.append rb0) n)
  · rw [if_neg c] at e; cases e
def dCatL : D → D → Option D
  | .own xs, .own ys => if pls xs = true ∧ pls ys = true ∧ xs.length + ys.length ≤ sizeLine then some (.own (xs ++ ys)) else none
  | _, _ => none
theorem ro_catL {K : PySem.W.Frag} : Ro2 K rCat dCatL := fun H x y dx dy fx fy z Q rx ry e q => by
  cases dx <;> cases dy <;> first
    | cases e
    | skip
  rename_i xs ys
  dsimp only [dCatL] at e
  by_cases c : pls xs = true ∧ pls ys = true ∧ xs.length + ys.length ≤ sizeLine
  · rw [if_pos c] at e
    cases e
    obtain ⟨a, vs, f, ea, qa, ra, _⟩ := rx
    obtain ⟨b, us, g, eb, qb, rb, _⟩ := ry
    have ra0 := ra.nil_of c.1
    have rb0 := rb.nil_of c.2.1
    have la := ra.length
    have lb := rb.length
    exact ⟨a, b, vs, us, ea, eb, qa, qb, by omega, fun p n => q _ _ (new_own (by exact ra0.append rb0) n)⟩
  · rw [if_neg c] at e; cases e
def dCatS : D → D → Option D
  | .str x, .str y => if x.length + y.length ≤ sizeLine then some (.str (x ++ y)) else none
  | _, _ => none
def rCatS : R2 := fun x y H Q => ∃ i j, x = .str i ∧ y = .str j ∧ i.length + j.length ≤ sizeLine ∧ Q (.str (i ++ j)) H
theorem ro_catS {K : PySem.W.Frag} : Ro2 K rCatS dCatS := fun H x y dx dy fx fy z Q rx ry e q => by
  cases dx <;> cases dy <;> first
    | cases e
    | skip
  rename_i xs ys
  dsimp only [dCatS] at e
  by_cases c : xs.length + ys.length ≤ sizeLine
  · rw [if_pos c] at e
    cases e
    exact ⟨xs, ys, rx.1, ry.1, c, q _ _ (.plain ⟨rfl, rfl⟩)⟩
  · rw [if_neg c] at e; cases e
def dAdd : D → D → Option D
  | .int i, .int j => some (.int (i + j))
  | .tup xs, .tup ys => if pls xs = true ∧ pls ys = true ∧ xs.length + ys.length ≤ sizeLine then some (.tup (xs ++ ys)) else none
  | .own xs, .own ys => if pls xs = true ∧ pls ys = true ∧ xs.length + ys.length ≤ sizeLine then some (.own (xs ++ ys)) else none
  | .str x, .str y => if x.length + y.length ≤ sizeLine then some (.str (x ++ y)) else none
  | _, _ => none
def rAdd' (K : PySem.W.Frag) : R2 := fun x y H Q => (rI0 (fun i j => .int (i + j)) x y H Q ∨ rCatA K x y H Q) ∨ (rCat x y H Q ∨ rCatS x y H Q)
theorem op_add' {X : Cx} : OpR X (binaryOp .Add) (rAdd' X.K) := (op_add.or op_catA).or (op_cat.or op_add_str)
theorem orN {α : Type} (o : Option α) : (o.orElse fun _ => none) = o := by cases o <;> rfl
theorem ro_add {K : PySem.W.Frag} : Ro2 K (rAdd' K) dAdd := ((ro_I0.or ro_catT).or (ro_catL.or ro_catS)).ext fun x y => by
  cases x <;> cases y <;> first
    | rfl
    | (unfold dAdd; simp only [dI, dCatT, dCatL, dCatS, Option.orElse_none, Option.orElse_some, orN] <;> (split <;> rfl))

/-! ### -, *, //, %, ** -/
def dSub : D → D → Option D := dI fun i j => some (.int (i - j))
def mulC (i j : Int) : Bool := decide (i.natAbs.log2 + j.natAbs.log2 < 1000000)
def dMul : D → D → Option D := dI fun i j => if mulC i j = true then some (.int (i * j)) else none
def divC (i j : Int) : Bool := decide (0 < j ∧ j < 1073741824)
def dDiv : D → D → Option D := dI fun i j => if divC i j = true then some (.int (i / j)) else none
def modC (i j : Int) : Bool := decide (0 < j)
def dMod : D → D → Option D := dI fun i j => if modC i j = true then some (.int (i % j)) else none
def CPowW (i j : Int) : Prop := 0 ≤ j ∧ (Builtin.Int.intBits i : Int) * j ≤ 2 ^ 27
def powC (i j : Int) : Bool := decide (0 ≤ j ∧ (Builtin.Int.intBits i : Int) * j ≤ 2 ^ 27)
def dPow : D → D → Option D := dI fun i j => if powC i j = true then some (.int (i ^ j.toNat)) else none
theorem op_powW {X : Cx} : OpR X (binaryOp .Pow) (rI CPowW fun i j => .int (i ^ j.toNat)) := opI fun _ _ _ _ _ _ _ hc q => PyProof.Rows.pow_int hc.1 hc.2 q
section
variable {K : PySem.W.Frag}
theorem ro_sub : Ro2 K (rI0 fun i j => .int (i - j)) dSub := ro_I0
theorem ro_mul : Ro2 K (rI CMulW fun i j => .int (i * j)) dMul := ro_IC fun i j h => of_decide_eq_true (p := i.natAbs.log2 + j.natAbs.log2 < 1000000) h
theorem ro_div : Ro2 K (rI CDiv fun i j => .int (i / j)) dDiv := ro_IC fun i j h => of_decide_eq_true (p := 0 < j ∧ j < 1073741824) h
theorem ro_mod : Ro2 K (rI (fun _ j => 0 < j) fun i j => .int (i % j)) dMod := ro_IC fun i j h => of_decide_eq_true (p := 0 < j) h
theorem ro_pow : Ro2 K (rI CPowW fun i j => .int (i ^ j.toNat)) dPow := ro_IC fun i j h => of_decide_eq_true (p := 0 ≤ j ∧ (Builtin.Int.intBits i : Int) * j ≤ 2 ^ 27) h
end
def dNeg : D → Option D
  | .int i => some (.int (-i))
  | _ => none
theorem ro_neg {K : PySem.W.Frag} : Ro1 K (rU fun i => .int (-i)) dNeg := fun H x dx fx z Q rx e q => by
  cases dx <;> first
    | cases e
    | skip
  exact ⟨_, rx.1, q _ _ (.plain ⟨rfl, rfl⟩)⟩

/-! ### comparisons -/
mutual
def toPy : D → PyData
  | .non => .none
  | .bl b => .bool b
  | .int i => .int i
  | .str x => .str x
  | .tup xs => .tuple (toPys xs)
  | .lst xs => .list (toPys xs)
  | .own xs => .list (toPys xs)
def toPys : List D → List PyData
  | [] => []
  | d :: ds => toPy d :: toPys ds
end
section
variable {K : PySem.W.Frag} {H : Hp}
mutual
theorem dp_of : ∀ (d : D) (v : V) (f : List Addr), RV K H d v f → Dp K H v (toPy d)
  | .non, v, f, h => by obtain ⟨e, _⟩ := h; subst e; exact .non
  | .bl b, v, f, h => by obtain ⟨e, _⟩ := h; subst e; exact .bl b
  | .int i, v, f, h => by obtain ⟨e, _⟩ := h; subst e; exact .int i
  | .str x, v, f, h => by obtain ⟨e, _⟩ := h; subst e; exact .str x
  | .tup xs, v, f, h => by
    obtain ⟨a, vs, e, q, r⟩ := h
    subst e
    exact .tup q (dps_of xs vs f r)
  | .lst xs, v, f, h => by
    obtain ⟨a, vs, e, q, r, _⟩ := h
    subst e
    exact .lst q.sq (dps_of xs vs [] r)
  | .own xs, v, f, h => by
    obtain ⟨a, vs, g, e, q, r, _⟩ := h
    subst e
    exact .lst (.of q) (dps_of xs vs g r)
theorem dps_of : ∀ (ds : List D) (vs : List V) (f : List Addr), RVs K H ds vs f → DpAll K H vs (toPys ds)
  | [], vs, f, h => by obtain ⟨e, _⟩ := h; subst e; exact .nil
  | d :: ds, vs, f, h => by
    obtain ⟨v, r, f1, g, e, q, t, _⟩ := h
    subst e
    exact .cons (dp_of d v f1 q) (dps_of ds r g t)
end
end
def dEq (x y : D) : Option D := if SeqAt.shaped (toPy x) = true ∧ SeqAt.shaped (toPy y) = true then some (.bl (PyData.eqv (toPy x) (toPy y))) else none
def dNe (x y : D) : Option D := if SeqAt.shaped (toPy x) = true ∧ SeqAt.shaped (toPy y) = true then some (.bl (!PyData.eqv (toPy x) (toPy y))) else none
theorem ro_eq {K : PySem.W.Frag} : Ro2 K (rEqD K) dEq := fun H x y dx dy fx fy z Q rx ry e q => by
  unfold dEq at e
  by_cases c : SeqAt.shaped (toPy dx) = true ∧ SeqAt.shaped (toPy dy) = true
  · rw [if_pos c] at e
    cases e
    exact ⟨toPy dx, toPy dy, dp_of _ _ _ rx, dp_of _ _ _ ry, c.1, c.2, q _ _ (.plain ⟨rfl, rfl⟩)⟩
  · rw [if_neg c] at e; cases e
theorem ro_ne {K : PySem.W.Frag} : Ro2 K (rNeD K) dNe := fun H x y dx dy fx fy z Q rx ry e q => by
  unfold dNe at e
  by_cases c : SeqAt.shaped (toPy dx) = true ∧ SeqAt.shaped (toPy dy) = true
  · rw [if_pos c] at e
    cases e
    exact ⟨toPy dx, toPy dy, dp_of _ _ _ rx, dp_of _ _ _ ry, c.1, c.2, q _ _ (.plain ⟨rfl, rfl⟩)⟩
  · rw [if_neg c] at e; cases e
@[simp] theorem dEq_int (i j : Int) : dEq (.int i) (.int j) = some (.bl (i == j)) := rfl
@[simp] theorem dNe_int (i j : Int) : dNe (.int i) (.int j) = some (.bl (!(i == j))) := rfl
@[simp] theorem dEq_bl (i j : Bool) : dEq (.bl i) (.bl j) = some (.bl (i == j)) := rfl
def dLt : D → D → Option D := dI fun i j => some (.bl (decide (i < j)))
def dLe : D → D → Option D := dI fun i j => some (.bl (decide (i ≤ j)))
def dGt : D → D → Option D := dI fun i j => some (.bl (decide (j < i)))
def dGe : D → D → Option D := dI fun i j => some (.bl (decide (j ≤ i)))
section
variable {K : PySem.W.Frag}
theorem ro_lt : Ro2 K (rI0 fun i j => .bl (decide (i < j))) dLt := ro_B0
theorem ro_le : Ro2 K (rI0 fun i j => .bl (decide (i ≤ j))) dLe := ro_B0
theorem ro_gt : Ro2 K (rI0 fun i j => .bl (decide (j < i))) dGt := ro_B0
theorem ro_ge : Ro2 K (rI0 fun i j => .bl (decide (j ≤ i))) dGe := ro_B0
end
/-- is None -/
def isN : D → Bool
  | .non => true
  | _ => false
def dIs (x y : D) : Option D := match y with
  | .non => some (.bl (isN x))
  | _ => none
def dIsNot (x y : D) : Option D := match y with
  | .non => some (.bl (!isN x))
  | _ => none
theorem isN_rv {K : PySem.W.Frag} {H : Hp} {d : D} {v : V} {f : List Addr} (r : RV K H d v f) : decide (v = V.non) = isN d := by
  cases d with
  | non => rw [r.1]; rfl
  | bl b => rw [r.1]; rfl
  | int i => rw [r.1]; rfl
  | str x => rw [r.1]; rfl
  | tup xs => obtain ⟨a, vs, e, _⟩ := r; rw [e]; rfl
  | lst xs => obtain ⟨a, vs, e, _⟩ := r; rw [e]; rfl
  | own xs => obtain ⟨a, vs, g, e, _⟩ := r; rw [e]; rfl
def rIsN : R2 := fun x y H Q => y = .non ∧ Q (.bl (decide (x = .non))) H
def rNotN : R2 := fun x y H Q => y = .non ∧ Q (.bl (!decide (x = .non))) H
theorem ro_is {K : PySem.W.Frag} : Ro2 K rIsN dIs := fun H x y dx dy fx fy z Q rx ry e q => by
  cases dy <;> first
    | cases e
    | skip
  exact ⟨ry.1, by rw [isN_rv rx]; exact q _ _ (.plain ⟨rfl, rfl⟩)⟩
theorem ro_isnot {K : PySem.W.Frag} : Ro2 K rNotN dIsNot := fun H x y dx dy fx fy z Q rx ry e q => by
  cases dy <;> first
    | cases e
    | skip
  exact ⟨ry.1, by rw [isN_rv rx]; exact q _ _ (.plain ⟨rfl, rfl⟩)⟩
/-- in, not in: flat things -/
def flatD : D → Bool
  | .non => true
  | .bl _ => true
  | .int _ => true
  | .str _ => true
  | _ => false
def eqD : D → D → Bool
  | .non, .non => true
  | .bl a, .bl b => a == b
  | .bl a, .int b => (if a then 1 else 0) == b
  | .int a, .bl b => a == (if b then 1 else 0)
  | .int a, .int b => a == b
  | .str a, .str b => a == b
  | _, _ => false
def inD (x : D) (xs : List D) : Bool := xs.any fun y => eqD y x
def dIn (neg : Bool) (x y : D) : Option D := match seqD y with
  | some ys => if flatD x = true ∧ ys.all flatD = true then some (.bl (if neg then !inD x ys else inD x ys)) else none
  | none => none
section
variable {K : PySem.W.Frag} {H : Hp}
theorem flat_rv {d : D} {v : V} {f : List Addr} (r : RV K H d v f) (h : flatD d = true) : flatV v = true := by
  cases d <;> first
    | exact absurd h Bool.false_ne_true
    | (rw [r.1]; rfl)
theorem eq_rv {d e : D} {v u : V} {f g : List Addr} (r : RV K H d v f) (r' : RV K H e u g) (h : flatD d = true) (h' : flatD e = true) : eqV v u = eqD d e := by
  cases d <;> first
    | exact absurd h Bool.false_ne_true
    | (cases e <;> first
        | exact absurd h' Bool.false_ne_true
        | (rw [r.1, r'.1]; rfl))
theorem flats_rv : ∀ {ds : List D} {vs : List V} {f : List Addr}, RVs K H ds vs f → ds.all flatD = true → vs.all flatV = true
  | [], vs, f, r, _ => by rw [r.1]; rfl
  | d :: ds, vs, f, r, h => by
    obtain ⟨v, t, f1, g, e, q, q2, _⟩ := r
    subst e
    rw [List.all_cons, Bool.and_eq_true] at h ⊢
    exact ⟨flat_rv q h.1, flats_rv q2 h.2⟩
theorem in_rv {x : D} {v : V} {g : List Addr} (r' : RV K H x v g) (h' : flatD x = true) : ∀ {ds : List D} {vs : List V} {f : List Addr}, RVs K H ds vs f → ds.all flatD = true → inV v vs = inD x ds
  | [], vs, f, r, _ => by rw [r.1]; rfl
  | d :: ds, vs, f, r, h => by
    obtain ⟨u, t, f1, g, e, q, q2, _⟩ := r
    subst e
    rw [List.all_cons, Bool.and_eq_true] at h
    show (eqV u v || inV v t) = (eqD d x || inD x ds)
    rw [eq_rv q r' h.1 h', in_rv r' h' q2 h.2]
end
theorem ro_in {K : PySem.W.Frag} (neg : Bool) : Ro2 K (rIn K neg) (dIn neg) := fun H x y dx dy fx fy z Q rx ry e q => by
  unfold dIn at e
  cases e1 : seqD dy with
  | none => rw [e1] at e; cases e
  | some ys =>
    rw [e1] at e
    obtain ⟨a, vs, g, ea, qa, ra⟩ := seqD_rv ry e1
    by_cases c : flatD dx = true ∧ ys.all flatD = true
    · replace e : (if flatD dx = true ∧ ys.all flatD = true then some (D.bl (if neg then !inD dx ys else inD dx ys)) else none) = some z := e
      rw [if_pos c] at e
      cases e
      refine ⟨a, vs, ea, qa, flat_rv rx c.1, flats_rv ra c.2, ?_⟩
      rw [in_rv rx c.1 ra c.2]
      exact q _ _ (.plain ⟨rfl, rfl⟩)
    · replace e : (if flatD dx = true ∧ ys.all flatD = true then some (D.bl (if neg then !inD dx ys else inD dx ys)) else none) = some z := e
      rw [if_neg c] at e; cases e

/-! ### items -/
def dIx (x y : D) : Option D := match x, y with
  | .str s, .int i => if s.length ≤ sizeLine then (atI s.cps.toList i).map fun c => D.str ⟨#[c]⟩ else none
  | x, .int i => match seqD x with
    | some xs => match atI xs i with
      | some d => if pl d = true then some d else none
      | none => none
    | none => none
  | _, _ => none
theorem atI_rv {K : PySem.W.Frag} {H : Hp} {xs : List D} {vs : List V} {f : List Addr} {i : Int} {d : D} (r : RVs K H xs vs f) (e : atI xs i = some d) : ∃ v g, atI vs i = some v ∧ RV K H d v g := by
  unfold atI at e ⊢
  obtain ⟨j, h1, h2⟩ := Option.bind_eq_some_iff.mp e
  obtain ⟨v, g, h3, h4, _⟩ := r.get h2
  exact ⟨v, g, by rw [← r.length, h1]; exact h3, h4⟩
theorem ro_ix {K : PySem.W.Frag} : Ro2 K (rIx K) dIx := fun H x y dx dy fx fy z Q rx ry e q => by
  cases dy <;> first
    | (cases dx <;> cases e)
    | skip
  rename_i i
  have seqs : ∀ {dx : D} {fx : List Addr} {xs : List D}, RV K H dx x fx → seqD dx = some xs → (match atI xs i with
      | some d => if pl d = true then some d else none
      | none => none) = some z → rIx K x y H Q := fun {dx fx xs} rx h1 h2 => by
    obtain ⟨a, vs, g, ea, qa, ra⟩ := seqD_rv rx h1
    cases e2 : atI xs i with
    | none => rw [e2] at h2; cases h2
    | some d =>
      rw [e2] at h2
      by_cases p : pl d = true
      · replace h2 : (if pl d = true then some d else none) = some z := h2
        rw [if_pos p] at h2
        cases h2
        obtain ⟨v, g', e3, r3⟩ := atI_rv ra e2
        rcases qa with qa | qa
        · exact .inl ⟨a, vs, i, v, ea, ry.1, qa, e3, q _ _ (.mine r3 p)⟩
        · exact .inr (.inl ⟨a, vs, i, v, ea, ry.1, qa, e3, q _ _ (.mine r3 p)⟩)
      · replace h2 : (if pl d = true then some d else none) = some z := h2
        rw [if_neg p] at h2; cases h2
  cases dx with
  | str s =>
    replace e : (if s.length ≤ sizeLine then (atI s.cps.toList i).map fun c => D.str ⟨#[c]⟩ else none) = some z := e
    by_cases c : s.length ≤ sizeLine
    · rw [if_pos c] at e
      obtain ⟨ch, h1, h2⟩ := Option.map_eq_some_iff.mp e
      subst h2
      exact .inr (.inr ⟨s, i, ch, rx.1, ry.1, c, h1, q _ _ (.plain ⟨rfl, rfl⟩)⟩)
    · rw [if_neg c] at e; cases e
  | tup xs => exact seqs rx rfl e
  | lst xs => exact seqs rx rfl e
  | own xs => exact seqs rx rfl e
  | non => cases e
  | bl b => cases e
  | int j => cases e

/-! ### built-ins of one argument -/
def r1' (r : List V → Hp → VK → Prop) : V → Hp → VK → Prop := fun x H Q => r [x] H Q
def dLen : D → Option D
  | .str s => if s.length ≤ sizeLine then some (.int s.length) else none
  | x => (seqD x).map fun xs => .int xs.length
def rLen (K : PySem.W.Frag) : List V → Hp → VK → Prop := fun xs H Q => ∃ x n, xs = [x] ∧ LenV K x H n ∧ Q (.int n) H
theorem ro_len {K : PySem.W.Frag} : Ro1 K (r1' (rLen K)) dLen := fun H x dx fx z Q rx e q => by
  have seqs : ∀ {dx : D} {fx : List Addr}, RV K H dx x fx → ((seqD dx).map fun xs => D.int xs.length) = some z → r1' (rLen K) x H Q := fun {dx fx} rx h1 => by
    obtain ⟨xs, h2, h3⟩ := Option.map_eq_some_iff.mp h1
    subst h3
    obtain ⟨a, vs, g, ea, qa, ra⟩ := seqD_rv rx h2
    subst ea
    refine ⟨.ref a, xs.length, rfl, ?_, q _ _ (.plain ⟨rfl, rfl⟩)⟩
    rcases qa with qa | qa
    · exact .inl ⟨vs, qa, ra.length⟩
    · exact .inr ⟨vs, qa, ra.length⟩
  cases dx with
  | str s =>
    replace e : (if s.length ≤ sizeLine then some (D.int s.length) else none) = some z := e
    by_cases c : s.length ≤ sizeLine
    · rw [if_pos c] at e
      cases e
      exact ⟨.str s, s.length, by rw [rx.1], ⟨c, rfl⟩, q _ _ (.plain ⟨rfl, rfl⟩)⟩
    · rw [if_neg c] at e; cases e
  | tup xs => exact seqs rx e
  | lst xs => exact seqs rx e
  | own xs => exact seqs rx e
  | non => cases e
  | bl b => cases e
  | int j => cases e
def dTuple : D → Option D
  | .tup xs => if pls xs = true then some (.tup xs) else none
  | .lst xs => if pls xs = true then some (.tup xs) else none
  | .own xs => if pls xs = true then some (.tup xs) else none
  | _ => none
def rTuple (K : PySem.W.Frag) : List V → Hp → VK → Prop := fun xs H Q => ∃ p ys, xs = [.ref p] ∧ ((SqL K H p ys ∧ ∀ l, H l = none → Q (.ref l) (upd H l (.tup ys))) ∨ (SqT K H p ys ∧ Q (.ref p) H))
theorem ro_tuple {K : PySem.W.Frag} : Ro1 K (r1' (rTuple K)) dTuple := fun H x dx fx z Q rx e q => by
  cases dx with
  | tup xs =>
    replace e : (if pls xs = true then some (D.tup xs) else none) = some z := e
    by_cases c : pls xs = true
    · rw [if_pos c] at e
      cases e
      obtain ⟨a, vs, ea, qa, ra⟩ := rx
      exact ⟨a, vs, by rw [ea], .inr ⟨qa, q _ _ (.plain ⟨a, vs, rfl, qa, ra.nil_of c⟩)⟩⟩
    · rw [if_neg c] at e; cases e
  | lst xs =>
    replace e : (if pls xs = true then some (D.tup xs) else none) = some z := e
    by_cases c : pls xs = true
    · rw [if_pos c] at e
      cases e
      obtain ⟨a, vs, ea, qa, ra, _⟩ := rx
      exact ⟨a, vs, by rw [ea], .inl ⟨qa.sq, fun p n => q _ _ (new_tup ra n)⟩⟩
    · rw [if_neg c] at e; cases e
  | own xs =>
    replace e : (if pls xs = true then some (D.tup xs) else none) = some z := e
    by_cases c : pls xs = true
    · rw [if_pos c] at e
      cases e
      obtain ⟨a, vs, g, ea, qa, ra, _⟩ := rx
      exact ⟨a, vs, by rw [ea], .inl ⟨.of qa, fun p n => q _ _ (new_tup (ra.nil_of c) n)⟩⟩
    · rw [if_neg c] at e; cases e
  | non => cases e
  | bl b => cases e
  | int j => cases e
  | str s => cases e
def dList (x : D) : Option D := match seqD x with
  | some xs => if pls xs = true then some (.own xs) else none
  | none => none
def rList (K : PySem.W.Frag) : List V → Hp → VK → Prop := fun xs H Q => ∃ p ys, xs = [.ref p] ∧ (SqL K H p ys ∨ SqT K H p ys) ∧ ∀ l, H l = none → Q (.ref l) (upd H l (.lst ys))
theorem ro_list {K : PySem.W.Frag} : Ro1 K (r1' (rList K)) dList := fun H x dx fx z Q rx e q => by
  unfold dList at e
  cases e1 : seqD dx with
  | none => rw [e1] at e; cases e
  | some xs =>
    rw [e1] at e
    replace e : (if pls xs = true then some (D.own xs) else none) = some z := e
    by_cases c : pls xs = true
    · rw [if_pos c] at e
      cases e
      obtain ⟨a, vs, g, ea, qa, ra⟩ := seqD_rv rx e1
      exact ⟨a, vs, by rw [ea], qa, fun p n => q _ _ (new_own (ra.nil_of c) n)⟩
    · rw [if_neg c] at e; cases e
def dInt : D → Option D
  | .int i => some (.int i)
  | .bl b => some (.int (if b then 1 else 0))
  | _ => none
def rInt : List V → Hp → VK → Prop := fun xs H Q => (∃ i, xs = [.int i] ∧ Q (.int i) H) ∨ ∃ k, xs = [.bl k] ∧ Q (.int (if k then 1 else 0)) H
theorem ro_int {K : PySem.W.Frag} : Ro1 K (r1' rInt) dInt := fun H x dx fx z Q rx e q => by
  cases dx with
  | int i => cases e; exact .inl ⟨_, by rw [rx.1], q _ _ (.plain ⟨rfl, rfl⟩)⟩
  | bl i => cases e; exact .inr ⟨i, by rw [rx.1], q _ _ (.plain ⟨rfl, rfl⟩)⟩
  | non => cases e
  | str i => cases e
  | tup i => cases e
  | lst i => cases e
  | own i => cases e
/-- a value's truth -/
def truD : D → Option Bool
  | .non => some false
  | .bl b => some b
  | .int i => some (i != 0)
  | .str s => if s.length ≤ sizeLine then some ((s.length : Int) != 0) else none
  | x => (seqD x).map fun xs => !xs.isEmpty
theorem tru_rv {K : PySem.W.Frag} {H : Hp} {d : D} {v : V} {f : List Addr} {b : Bool} (r : RV K H d v f) (e : truD d = some b) : TruV K v H b := by
  have seqs : ∀ {d : D} {f : List Addr}, RV K H d v f → ((seqD d).map fun xs => !xs.isEmpty) = some b → TruV K v H b := fun {d f} rx h1 => by
    obtain ⟨xs, h2, h3⟩ := Option.map_eq_some_iff.mp h1
    subst h3
    obtain ⟨a, vs, g, ea, qa, ra⟩ := seqD_rv rx h2
    subst ea
    have hl : (!xs.isEmpty) = !vs.isEmpty := by
      have := ra.length
      cases xs <;> cases vs <;> first | rfl | simp at this
    rcases qa with qa | qa
    · exact .inl ⟨vs, qa, hl⟩
    · exact .inr (.inl ⟨vs, qa, hl⟩)
  cases d with
  | non => cases e; rw [r.1]; rfl
  | bl b => cases e; rw [r.1]; rfl
  | int i => cases e; rw [r.1]; rfl
  | str s =>
    replace e : (if s.length ≤ sizeLine then some ((s.length : Int) != 0) else none) = some b := e
    by_cases c : s.length ≤ sizeLine
    · rw [if_pos c] at e
      cases e
      rw [r.1]
      exact ⟨c, rfl⟩
    · rw [if_neg c] at e; cases e
  | tup xs => exact seqs r e
  | lst xs => exact seqs r e
  | own xs => exact seqs r e
/-- isinstance(x, T), T a built-in type -/
def tyD : D → String
  | .non => "NoneType"
  | .bl _ => "bool"
  | .int _ => "int"
  | .str _ => "str"
  | .tup _ => "tuple"
  | .lst _ => "list"
  | .own _ => "list"
theorem ty_rv {K : PySem.W.Frag} {H : Hp} {d : D} {v : V} {f : List Addr} (r : RV K H d v f) : TyX K H v (.type (tyD d)) := by
  cases d with
  | non => rw [r.1]; exact .base .non
  | bl b => rw [r.1]; exact .base (.bl b)
  | int i => rw [r.1]; exact .base (.int i)
  | str x => rw [r.1]; exact .base (.str x)
  | tup xs =>
    obtain ⟨a, vs, e, q, _⟩ := r
    subst e
    rcases q with (q | ⟨o, q⟩) | ⟨o, its, n, q, c, _⟩
    · exact .base (.tup q)
    · exact .fTuple q
    · exact .kTuple q c
  | lst xs =>
    obtain ⟨a, vs, e, q, _⟩ := r
    subst e
    rcases q with ⟨o, q⟩ | ⟨o, its, n, q, c, _⟩
    · exact .base (.frz q)
    · exact .kList q c
  | own xs =>
    obtain ⟨a, vs, g, e, q, _⟩ := r
    subst e
    exact .base (.lst q)
def dIsi (T : String) (x : D) : Option D := (kitB (tyD x) T).map .bl
def rIsiC (K : PySem.W.Frag) (T : String) : V → Hp → VK → Prop := fun x H Q => rIsi K [x, .ty T] H Q
theorem ro_isi {K : PySem.W.Frag} (T : String) : Ro1 K (rIsiC K T) (dIsi T) := fun H x dx fx z Q rx e q => by
  obtain ⟨b, h1, h2⟩ := Option.map_eq_some_iff.mp e
  subst h2
  exact ⟨x, .ty T, _, _, b, rfl, .ty T, ty_rv rx, kit_ty h1, q _ _ (.plain ⟨rfl, rfl⟩)⟩
end Pm

set_option autoImplicit true
namespace Pm
open PySem PySem.Spec L2

/-! ### expressions of two parts -/
section
variable {X : Cx} {Eh : WX} {a b : Expr} {pos : Pos} {op : Operator} {cop : CmpOp} {r : R2} {d : D → D → Option D} {f g : PM D} {p q : Ev → Option D} {j : Nat}
theorem bin_gg (ho : OpR X (binaryOp op) r) (hr : Ro2 X.K r d) (ha : PE X a (tP X.K X.mg Eh f)) (hb : PE X b (tP X.K X.mg Eh g)) : PE X (.BinOp a op b pos) (tP X.K X.mg Eh (x2gg d f g)) := (pe_op ho ha hb).imp fun _ _ _ h => imp2gg hr h
theorem bin_gp (ho : OpR X (binaryOp op) r) (hr : Ro2 X.K r d) (ha : PE X a (tP X.K X.mg Eh f)) (hb : PE X b (tB X.K q)) : PE X (.BinOp a op b pos) (tP X.K X.mg Eh (x2gp d f q)) := (pe_op ho ha hb).imp fun _ _ _ h => imp2gp hr h
theorem bin_vg (ho : OpR X (binaryOp op) r) (hr : Ro2 X.K r d) (ha : PE X a (tV X.K j)) (hb : PE X b (tP X.K X.mg Eh g)) : PE X (.BinOp a op b pos) (tP X.K X.mg Eh (x2vg d j g)) := (pe_op ho ha hb).imp fun _ _ _ h => imp2vg hr h
theorem bin_pp (ho : OpR X (binaryOp op) r) (hr : Ro2 X.K r d) (ha : PE X a (tB X.K p)) (hb : PE X b (tB X.K q)) : PE X (.BinOp a op b pos) (tP X.K X.mg Eh (x2pp d p q)) := (pe_op ho ha hb).imp fun _ _ _ h => imp2pp hr h
theorem cmp_gg (ho : OpR X (compareOp cop) r) (hr : Ro2 X.K r d) (ha : PE X a (tP X.K X.mg Eh f)) (hb : PE X b (tP X.K X.mg Eh g)) (hm : behindInMarks cop b = false) : PE X (.Compare a [cop] [b] pos) (tP X.K X.mg Eh (x2gg d f g)) := (pe_cmpR ho ha hb hm).imp fun _ _ _ h => imp2gg hr h
theorem cmp_gp (ho : OpR X (compareOp cop) r) (hr : Ro2 X.K r d) (ha : PE X a (tP X.K X.mg Eh f)) (hb : PE X b (tB X.K q)) (hm : behindInMarks cop b = false) : PE X (.Compare a [cop] [b] pos) (tP X.K X.mg Eh (x2gp d f q)) := (pe_cmpR ho ha hb hm).imp fun _ _ _ h => imp2gp hr h
theorem cmp_vg (ho : OpR X (compareOp cop) r) (hr : Ro2 X.K r d) (ha : PE X a (tV X.K j)) (hb : PE X b (tP X.K X.mg Eh g)) (hm : behindInMarks cop b = false) : PE X (.Compare a [cop] [b] pos) (tP X.K X.mg Eh (x2vg d j g)) := (pe_cmpR ho ha hb hm).imp fun _ _ _ h => imp2vg hr h
theorem cmp_pp (ho : OpR X (compareOp cop) r) (hr : Ro2 X.K r d) (ha : PE X a (tB X.K p)) (hb : PE X b (tB X.K q)) (hm : behindInMarks cop b = false) : PE X (.Compare a [cop] [b] pos) (tP X.K X.mg Eh (x2pp d p q)) := (pe_cmpR ho ha hb hm).imp fun _ _ _ h => imp2pp hr h
theorem ix_gg (ha : PE X a (tP X.K X.mg Eh f)) (hb : PE X b (tP X.K X.mg Eh g)) (hs : PlainIx b) : PE X (.Subscript a b pos) (tP X.K X.mg Eh (x2gg dIx f g)) := (pe_ix ix_seq ha hb hs).imp fun _ _ _ h => imp2gg ro_ix h
theorem ix_gp (ha : PE X a (tP X.K X.mg Eh f)) (hb : PE X b (tB X.K q)) (hs : PlainIx b) : PE X (.Subscript a b pos) (tP X.K X.mg Eh (x2gp dIx f q)) := (pe_ix ix_seq ha hb hs).imp fun _ _ _ h => imp2gp ro_ix h
theorem ix_vg (ha : PE X a (tV X.K j)) (hb : PE X b (tP X.K X.mg Eh g)) (hs : PlainIx b) : PE X (.Subscript a b pos) (tP X.K X.mg Eh (x2vg dIx j g)) := (pe_ix ix_seq ha hb hs).imp fun _ _ _ h => imp2vg ro_ix h
theorem ix_pp (ha : PE X a (tB X.K p)) (hb : PE X b (tB X.K q)) (hs : PlainIx b) : PE X (.Subscript a b pos) (tP X.K X.mg Eh (x2pp dIx p q)) := (pe_ix ix_seq ha hb hs).imp fun _ _ _ h => imp2pp ro_ix h
theorem neg_g (ha : PE X a (tP X.K X.mg Eh f)) : PE X (.UnaryOp .USub a pos) (tP X.K X.mg Eh (x1g dNeg f)) := (pe_un un_neg ha).imp fun _ _ _ h => imp1g ro_neg h

/-! ### built-ins of one argument -/
variable {x : Str} {pp : Pos} {id T : String} {rr : List V → Hp → VK → Prop} {d1 : D → Option D}
theorem tCons_nil {ta : TE} {s : L2.St} {H : Hp} {Q : VK} (h : ta s H fun x H1 => rr [x] H1 Q) : tCB rr (tCons ta tNil) s H Q := h
theorem bi_g (hc : CallR X (.builtin id) rr) (hr : Ro1 X.K (r1' rr) d1) (hg : Gl X x) (hm : X.mg x = none) (hv : bootBuiltins x = some (.builtin id)) (ha : PE X a (tP X.K X.mg Eh f)) (hn : x ≠ "__name__" := by decide) (hdb : (x == ("__debug__" : Str)) = false := by decide)
    (he : starEach [a] X.env = (false, eval a X.env) :: starEach [] X.env := by rfl) (hpl : (backTo pos (starEach [] X.env)).any (·.1) = false := by rfl) : PE X (.Call (.Name x pp) [a] [] pos) (tP X.K X.mg Eh (x1g d1 f)) :=
  (pe_callB hc hg hm hv (pa_cons ha pa_nil he) hn hdb he hpl).imp fun _ _ _ h => imp1g hr h
theorem bi_p (hc : CallR X (.builtin id) rr) (hr : Ro1 X.K (r1' rr) d1) (hg : Gl X x) (hm : X.mg x = none) (hv : bootBuiltins x = some (.builtin id)) (ha : PE X a (tB X.K q)) (hn : x ≠ "__name__" := by decide) (hdb : (x == ("__debug__" : Str)) = false := by decide)
    (he : starEach [a] X.env = (false, eval a X.env) :: starEach [] X.env := by rfl) (hpl : (backTo pos (starEach [] X.env)).any (·.1) = false := by rfl) : PE X (.Call (.Name x pp) [a] [] pos) (tP X.K X.mg Eh (x1p d1 q)) :=
  (pe_callB hc hg hm hv (pa_cons ha pa_nil he) hn hdb he hpl).imp fun _ _ _ h => imp1p hr h
theorem bt_g (hc : CallR X (.type T) rr) (hr : Ro1 X.K (r1' rr) d1) (hg : Gl X x) (hm : X.mg x = none) (hv : bootBuiltins x = some (.type T)) (ha : PE X a (tP X.K X.mg Eh f)) (hn : x ≠ "__name__" := by decide) (hdb : (x == ("__debug__" : Str)) = false := by decide)
    (he : starEach [a] X.env = (false, eval a X.env) :: starEach [] X.env := by rfl) (hpl : (backTo pos (starEach [] X.env)).any (·.1) = false := by rfl) : PE X (.Call (.Name x pp) [a] [] pos) (tP X.K X.mg Eh (x1g d1 f)) :=
  (pe_callTy hc hg hm hv (pa_cons ha pa_nil he) hn hdb he hpl).imp fun _ _ _ h => imp1g hr h
theorem bt_p (hc : CallR X (.type T) rr) (hr : Ro1 X.K (r1' rr) d1) (hg : Gl X x) (hm : X.mg x = none) (hv : bootBuiltins x = some (.type T)) (ha : PE X a (tB X.K q)) (hn : x ≠ "__name__" := by decide) (hdb : (x == ("__debug__" : Str)) = false := by decide)
    (he : starEach [a] X.env = (false, eval a X.env) :: starEach [] X.env := by rfl) (hpl : (backTo pos (starEach [] X.env)).any (·.1) = false := by rfl) : PE X (.Call (.Name x pp) [a] [] pos) (tP X.K X.mg Eh (x1p d1 q)) :=
  (pe_callTy hc hg hm hv (pa_cons ha pa_nil he) hn hdb he hpl).imp fun _ _ _ h => imp1p hr h
/-- isinstance(e, T) -/
theorem isi_g {y : Str} {py : Pos} (hg : Gl X "isinstance") (hm : X.mg "isinstance" = none) (hgy : Gl X y) (hmy : X.mg y = none) (hvy : bootBuiltins y = some (.type T)) (ha : PE X a (tP X.K X.mg Eh f)) (hn : y ≠ "__name__" := by decide) (hdb : (y == ("__debug__" : Str)) = false := by decide)
    (he : starEach [a, .Name y py] X.env = (false, eval a X.env) :: starEach [.Name y py] X.env := by rfl) (he2 : starEach [.Name y py] X.env = (false, eval (.Name y py) X.env) :: starEach [] X.env := by rfl)
    (hpl : (backTo pos (starEach [.Name y py] X.env)).any (·.1) = false := by rfl) : PE X (.Call (.Name "isinstance" pp) [a, .Name y py] [] pos) (tP X.K X.mg Eh (x1g (dIsi T) f)) :=
  (pe_callB call_isi hg hm (by decide +kernel) (pa_cons ha (pa_cons (pe_bltn (v := .ty T) hgy hmy hvy rfl hn hdb) pa_nil he2) he) (by decide) (by decide) he hpl).imp fun _ _ _ h => imp1g (ro_isi T) h
theorem isi_p {y : Str} {py : Pos} (hg : Gl X "isinstance") (hm : X.mg "isinstance" = none) (hgy : Gl X y) (hmy : X.mg y = none) (hvy : bootBuiltins y = some (.type T)) (ha : PE X a (tB X.K q)) (hn : y ≠ "__name__" := by decide) (hdb : (y == ("__debug__" : Str)) = false := by decide)
    (he : starEach [a, .Name y py] X.env = (false, eval a X.env) :: starEach [.Name y py] X.env := by rfl) (he2 : starEach [.Name y py] X.env = (false, eval (.Name y py) X.env) :: starEach [] X.env := by rfl)
    (hpl : (backTo pos (starEach [.Name y py] X.env)).any (·.1) = false := by rfl) : PE X (.Call (.Name "isinstance" pp) [a, .Name y py] [] pos) (tP X.K X.mg Eh (x1p (dIsi T) q)) :=
  (pe_callB call_isi hg hm (by decide +kernel) (pa_cons ha (pa_cons (pe_bltn (v := .ty T) hgy hmy hvy rfl hn hdb) pa_nil he2) he) (by decide) (by decide) he hpl).imp fun _ _ _ h => imp1p (ro_isi T) h
end

/-! ### displays -/
def mkTup (ds : List D) : Option D := if ds.length ≤ sizeLine then some (.tup ds) else none
def mkOwn (ds : List D) : Option D := if ds.length ≤ sizeLine then some (.own ds) else none
def xTup (f : PM (List D)) : PM D := fun w => (f w).bind fun ds w1 => back (mkTup ds) w1
def xOwn (f : PM (List D)) : PM D := fun w => (f w).bind fun ds w1 => back (mkOwn ds) w1
section
variable {X : Cx} {Eh : WX} {es : List Expr} {pos : Pos} {f : PM (List D)}
theorem hold_upd {K : PySem.W.Frag} {H : Hp} {w : Ev} {s : L2.St} {ds : List D} {vs : List V} {F : List Addr} {p : Addr} {o : HO} (h : Hold K H w s ds vs F) (n : H p = none) : Hold K (upd H p o) w s ds vs F := by
  obtain ⟨ft, fe, h1, h2, q, nd⟩ := h
  have k : Kp [] H (upd H p o) := fun a o e _ => by rw [upd_ne (ne_of_none e n)]; exact e
  exact ⟨ft, fe, RVs.kp k (fun _ z => nomatch z) _ _ _ (fun _ _ z => nomatch z) h1, h2.kp k (fun _ z => nomatch z) (fun _ _ z => nomatch z), q, nd⟩
theorem stp_upd {H : Hp} {F : List Addr} {p : Addr} {o : HO} (n : H p = none) : Stp F H F (upd H p o) := ⟨fun a o e _ => by rw [upd_ne (ne_of_none e n)]; exact e, fun a m => .inl m⟩
theorem stp_upd' {H : Hp} {F : List Addr} {p : Addr} {o : HO} (n : H p = none) : Stp F H (p :: F) (upd H p o) := ⟨fun a o e _ => by rw [upd_ne (ne_of_none e n)]; exact e, fun a m => (List.mem_cons.mp m).elim (fun e => .inr (by rw [e]; exact n)) .inl⟩
theorem hold_tup {K : PySem.W.Frag} {H : Hp} {w : Ev} {s : L2.St} {ds : List D} {vs : List V} {F : List Addr} {p : Addr} (h : Hold K H w s ds vs F) (n : H p = none) : Hold K (upd H p (.tup vs)) w s [.tup ds] [.ref p] F := by
  obtain ⟨ft, fe, h1, h2, q, nd⟩ := hold_upd (o := .tup vs) h n
  exact ⟨ft, fe, RVs.one ⟨p, vs, rfl, .inl (.inl upd_same), h1⟩, h2, q, nd⟩
theorem hold_own {K : PySem.W.Frag} {H : Hp} {w : Ev} {s : L2.St} {ds : List D} {vs : List V} {F : List Addr} {p : Addr} (h : Hold K H w s ds vs F) (n : H p = none) : Hold K (upd H p (.lst vs)) w s [.own ds] [.ref p] (p :: F) := by
  have hm := h.mut
  obtain ⟨ft, fe, h1, h2, q, nd⟩ := hold_upd (o := .lst vs) h n
  refine ⟨p :: ft, fe, RVs.one ⟨p, vs, ft, rfl, upd_same, h1, rfl⟩, h2, q.cons p, List.nodup_cons.mpr ⟨fun m => ?_, nd⟩⟩
  have := hm p m
  rw [n] at this
  exact this
theorem hold_len {K : PySem.W.Frag} {H : Hp} {w : Ev} {s : L2.St} {ds : List D} {vs : List V} {F : List Addr} (h : Hold K H w s ds vs F) : ds.length = vs.length := by
  obtain ⟨ft, fe, h1, h2, q, nd⟩ := h
  exact h1.length
theorem pp_tup {x1} (h : PA X es (tA X.K X.mg Eh f)) : PE X (.Tuple es x1 pos) (tP X.K X.mg Eh (xTup f)) := (pe_tup h).imp fun s H Q ⟨w, F, hold, q⟩ => by
  refine tA_run hold (Stp.refl fun _ m => m) q fun ds w2 vs H2 F2 e st h2 q2 => ?_
  replace h2 : Hold X.K H2 w2 s ds vs F2 := h2
  obtain ⟨z, hz, q3⟩ := back_po q2
  unfold mkTup at hz
  by_cases c : ds.length ≤ sizeLine
  · rw [if_pos c] at hz
    cases hz
    exact ⟨by rw [← hold_len h2]; exact c, fun p n => q3 _ _ F2 (st.trans (stp_upd n)) (hold_tup h2 n)⟩
  · rw [if_neg c] at hz; cases hz
theorem pp_own (h : PA X es (tA X.K X.mg Eh f)) : PE X (.List es pos) (tP X.K X.mg Eh (xOwn f)) := (pe_lst h).imp fun s H Q ⟨w, F, hold, q⟩ => by
  refine tA_run hold (Stp.refl fun _ m => m) q fun ds w2 vs H2 F2 e st h2 q2 => ?_
  replace h2 : Hold X.K H2 w2 s ds vs F2 := h2
  obtain ⟨z, hz, q3⟩ := back_po q2
  unfold mkOwn at hz
  by_cases c : ds.length ≤ sizeLine
  · rw [if_pos c] at hz
    cases hz
    exact ⟨by rw [← hold_len h2]; exact c, fun p n => q3 _ _ _ (st.trans (stp_upd' n)) (hold_own h2 n)⟩
  · rw [if_neg c] at hz; cases hz
end

/-! ### tests -/
def backB (o : Option Bool) (w : Ev) : Rs Bool := match o with
  | some b => .ok b w
  | none => .bad
@[simp] theorem backB_some (b : Bool) (w : Ev) : backB (some b) w = .ok b w := rfl
@[simp] theorem backB_none (w : Ev) : backB none w = .bad := rfl
def blD : D → Option Bool
  | .bl b => some b
  | _ => none
/-- a bool's own truth; any value's -/
def tBl (f : PM D) : PM Bool := fun w => (f w).bind fun d w1 => backB (blD d) w1
def tTru (f : PM D) : PM Bool := fun w => (f w).bind fun d w1 => backB (truD d) w1
def tTruP (q : Ev → Option D) : PM Bool := fun w => backB ((q w).bind truD) w
def tNotF (f : PM Bool) : PM Bool := fun w => (f w).bind fun b w1 => .ok (!b) w1
def tAndF (f g : PM Bool) : PM Bool := fun w => (f w).bind fun b w1 => if b = true then g w1 else .ok false w1
def tOrF (f g : PM Bool) : PM Bool := fun w => (f w).bind fun b w1 => if b = true then .ok true w1 else g w1
/-- a test as a value -/
def xBl (f : PM Bool) : PM D := fun w => (f w).bind fun b w1 => .ok (.bl b) w1
section
variable {X : Cx} {Eh : WX} {s : L2.St} {H : Hp}
theorem backB_po {F : List Addr} {o : Option Bool} {w : Ev} {Q : Bool → Ev → Prop} (h : Po X.K X.mg Eh H F s (backB o w) Q) : ∃ z, o = some z ∧ Q z w := by
  cases o with
  | none => exact h.elim
  | some z => exact ⟨z, rfl, h⟩
theorem bl_rv {K : PySem.W.Frag} {d : D} {v : V} {f : List Addr} {b : Bool} (r : RV K H d v f) (e : blD d = some b) : v = .bl b := by
  cases d with
  | bl c => cases e; exact r.1
  | non => cases e
  | int i => cases e
  | str x => cases e
  | tup x => cases e
  | lst x => cases e
  | own x => cases e
theorem tBl_imp {f : PM D} {Q : Bool → Hp → Prop} (h : tT X.K X.mg Eh (tBl f) s H Q) : tP X.K X.mg Eh f s H fun x H1 => ∃ k, x = .bl k ∧ Q k H1 := by
  obtain ⟨w, F, hold, q⟩ := h
  refine tP_run hold (Stp.refl fun _ m => m) q fun d w2 v H2 F2 e st h2 q2 => ?_
  obtain ⟨z, hz, q3⟩ := backB_po q2
  obtain ⟨fx, rx, _⟩ := Hold.one h2
  obtain ⟨F3, h3, sub⟩ := h2.drop0
  exact ⟨z, bl_rv rx hz, q3 H2 F3 (st.trans (Stp.refl sub)) h3⟩
theorem tTru_imp {f : PM D} {Q : Bool → Hp → Prop} (h : tT X.K X.mg Eh (tTru f) s H Q) : tP X.K X.mg Eh f s H fun x H1 => ∃ k, TruV X.K x H1 k ∧ Q k H1 := by
  obtain ⟨w, F, hold, q⟩ := h
  refine tP_run hold (Stp.refl fun _ m => m) q fun d w2 v H2 F2 e st h2 q2 => ?_
  obtain ⟨z, hz, q3⟩ := backB_po q2
  obtain ⟨fx, rx, _⟩ := Hold.one h2
  obtain ⟨F3, h3, sub⟩ := h2.drop0
  exact ⟨z, tru_rv rx hz, q3 H2 F3 (st.trans (Stp.refl sub)) h3⟩
theorem tTruP_imp {p : Ev → Option D} {Q : Bool → Hp → Prop} (h : tT X.K X.mg Eh (tTruP p) s H Q) : tB X.K p s H fun x H1 => ∃ k, TruV X.K x H1 k ∧ Q k H1 := by
  obtain ⟨w, F, hold, q⟩ := h
  obtain ⟨z, hz, q3⟩ := backB_po q
  obtain ⟨d, hd, hz⟩ := Option.bind_eq_some_iff.mp hz
  exact tB_run hold hd fun v f r m => ⟨z, tru_rv r hz, q3 H F (Stp.refl fun _ m => m) hold⟩
variable {a b e : Expr} {pos : Pos} {cop : CmpOp} {r : R2} {d : D → D → Option D} {f g : PM D} {p q : Ev → Option D} {j : Nat} {rest : List Expr}
theorem pt_gg (ho : OpR X (compareOp cop) r) (hr : Ro2 X.K r d) (ha : PE X a (tP X.K X.mg Eh f)) (hb : PE X b (tP X.K X.mg Eh g)) (hm : behindInMarks cop b = false) : PT X (.Compare a [cop] [b] pos) (tT X.K X.mg Eh (tBl (x2gg d f g))) := (pt_cmpR ho ha hb hm).imp fun _ _ _ h => imp2gg hr (tBl_imp h)
theorem pt_gp (ho : OpR X (compareOp cop) r) (hr : Ro2 X.K r d) (ha : PE X a (tP X.K X.mg Eh f)) (hb : PE X b (tB X.K q)) (hm : behindInMarks cop b = false) : PT X (.Compare a [cop] [b] pos) (tT X.K X.mg Eh (tBl (x2gp d f q))) := (pt_cmpR ho ha hb hm).imp fun _ _ _ h => imp2gp hr (tBl_imp h)
theorem pt_vg (ho : OpR X (compareOp cop) r) (hr : Ro2 X.K r d) (ha : PE X a (tV X.K j)) (hb : PE X b (tP X.K X.mg Eh g)) (hm : behindInMarks cop b = false) : PT X (.Compare a [cop] [b] pos) (tT X.K X.mg Eh (tBl (x2vg d j g))) := (pt_cmpR ho ha hb hm).imp fun _ _ _ h => imp2vg hr (tBl_imp h)
theorem pt_pp (ho : OpR X (compareOp cop) r) (hr : Ro2 X.K r d) (ha : PE X a (tB X.K p)) (hb : PE X b (tB X.K q)) (hm : behindInMarks cop b = false) : PT X (.Compare a [cop] [b] pos) (tT X.K X.mg Eh (tBl (x2pp d p q))) := (pt_cmpR ho ha hb hm).imp fun _ _ _ h => imp2pp hr (tBl_imp h)
theorem pt_tru (ha : PE X a (tP X.K X.mg Eh f)) (he : ∀ whole, PySem.isTrue a X.env whole = (do let v ← whole; standAt a.pos; holding [v] (truthy v)) := by intro _; rfl) : PT X a (tT X.K X.mg Eh (tTru f)) := (pt_truth ha he).imp fun _ _ _ h => tTru_imp h
theorem pt_truP (ha : PE X a (tB X.K p)) (he : ∀ whole, PySem.isTrue a X.env whole = (do let v ← whole; standAt a.pos; holding [v] (truthy v)) := by intro _; rfl) : PT X a (tT X.K X.mg Eh (tTruP p)) := (pt_truth ha he).imp fun _ _ _ h => tTruP_imp h
theorem pt_no {t : PM Bool} (ha : PT X a (tT X.K X.mg Eh t)) : PT X (.UnaryOp .Not a pos) (tT X.K X.mg Eh (tNotF t)) := (pt_not ha).imp fun s H Q ⟨w, F, hold, q⟩ => by
  refine tT_run hold (Stp.refl fun _ m => m) q fun c w2 H2 F2 e st h2 q2 => ?_
  exact q2 H2 F2 st h2
theorem tT_two {t : PM Bool} {k : Bool → Ev → Rs Bool} {Q : Bool → Hp → Prop} {R : Bool → Hp → Prop} {w : Ev} {F : List Addr} (hold : Hold X.K H w s [] [] F)
    (q : Po X.K X.mg Eh H F s ((t w).bind k) fun b w' => ∀ H' F', Stp F H F' H' → Hold X.K H' w' s [] [] F' → Q b H')
    (c : ∀ b w2 H2 F2, Stp F H F2 H2 → Hold X.K H2 w2 s [] [] F2 → Po X.K X.mg Eh H F s (k b w2) (fun b w' => ∀ H' F', Stp F H F' H' → Hold X.K H' w' s [] [] F' → Q b H') → R b H2) : tT X.K X.mg Eh t s H R :=
  tT_run hold (Stp.refl fun _ m => m) q fun b w2 H2 F2 e st h2 q2 => c b w2 H2 F2 st h2 q2
theorem po_back {H2 : Hp} {F F2 : List Addr} {w2 : Ev} {u : PM Bool} {Q : Bool → Hp → Prop} (st : Stp F H F2 H2) (h2 : Hold X.K H2 w2 s [] [] F2)
    (q : Po X.K X.mg Eh H F s (u w2) fun b w' => ∀ H' F', Stp F H F' H' → Hold X.K H' w' s [] [] F' → Q b H') : tT X.K X.mg Eh u s H2 Q := by
  refine ⟨w2, F2, h2, ?_⟩
  cases e : u w2 with
  | ok b w3 =>
    rw [e] at q
    intro H' F' st' h'
    exact q H' F' (st.trans st') h'
  | ex c fs w3 =>
    rw [e] at q
    intro cls od H' F' st' h' x
    exact q cls od H' F' (st.trans st') h' x
  | bad => rw [e] at q; exact q
theorem pw_an {t u : PM Bool} (ha : PT X a (tT X.K X.mg Eh t)) (hb : PW X (.BoolOp .And (b :: rest) pos) (tT X.K X.mg Eh u)) : PW X (.BoolOp .And (a :: b :: rest) pos) (tT X.K X.mg Eh (tAndF t u)) := (pw_and ha hb).imp fun s H Q ⟨w, F, hold, q⟩ => by
  refine tT_two hold q fun c w2 H2 F2 st h2 q2 => ?_
  cases c with
  | true => rw [if_pos rfl] at q2 ⊢; exact po_back st h2 q2
  | false =>
    rw [if_neg Bool.false_ne_true] at q2 ⊢
    exact q2 H2 F2 st h2
theorem pw_orr {t u : PM Bool} (ha : PT X a (tT X.K X.mg Eh t)) (hb : PW X (.BoolOp .Or (b :: rest) pos) (tT X.K X.mg Eh u)) : PW X (.BoolOp .Or (a :: b :: rest) pos) (tT X.K X.mg Eh (tOrF t u)) := (pw_or ha hb).imp fun s H Q ⟨w, F, hold, q⟩ => by
  refine tT_two hold q fun c w2 H2 F2 st h2 q2 => ?_
  cases c with
  | true =>
    rw [if_pos rfl] at q2 ⊢
    exact q2 H2 F2 st h2
  | false => rw [if_neg Bool.false_ne_true] at q2 ⊢; exact po_back st h2 q2
end

/-! ### and, or, not, if .. else as values (bools) -/
def xAnd (f g : PM D) : PM D := fun w => (f w).bind fun d w1 => match blD d with
  | some true => g w1
  | some false => .ok (.bl false) w1
  | none => .bad
def xOr (f g : PM D) : PM D := fun w => (f w).bind fun d w1 => match blD d with
  | some true => .ok (.bl true) w1
  | some false => g w1
  | none => .bad
def dNot : D → Option D
  | .bl b => some (.bl (!b))
  | _ => none
def xIf (t : PM Bool) (f g : PM D) : PM D := fun w => (t w).bind fun b w1 => if b = true then f w1 else g w1
section
variable {X : Cx} {Eh : WX} {a b c : Expr} {pos : Pos} {f g : PM D} {t : PM Bool} {rest : List Expr}
theorem pe_back {s : L2.St} {H H2 : Hp} {F F2 : List Addr} {w2 : Ev} {u : PM D} {Q : VK} (st : Stp F H F2 H2) (h2 : Hold X.K H2 w2 s [] [] F2)
    (q : Po X.K X.mg Eh H F s (u w2) fun d w' => ∀ v H' F', Stp F H F' H' → Hold X.K H' w' s [d] [v] F' → Q v H') : tP X.K X.mg Eh u s H2 Q := by
  refine ⟨w2, F2, h2, ?_⟩
  cases e : u w2 with
  | ok b w3 =>
    rw [e] at q
    intro v H' F' st' h'
    exact q v H' F' (st.trans st') h'
  | ex c fs w3 =>
    rw [e] at q
    intro cls od H' F' st' h' x
    exact q cls od H' F' (st.trans st') h' x
  | bad => rw [e] at q; exact q
theorem pp_and (ha : PE X a (tP X.K X.mg Eh f)) (hb : PE X (.BoolOp .And (b :: rest) pos) (tP X.K X.mg Eh g)) : PE X (.BoolOp .And (a :: b :: rest) pos) (tP X.K X.mg Eh (xAnd f g)) := (pe_and ha hb).imp fun s H Q ⟨w, F, hold, q⟩ => by
  refine tP_run hold (Stp.refl fun _ m => m) q fun d w2 v H2 F2 e st h2 q2 => ?_
  obtain ⟨fx, rx, _⟩ := Hold.one h2
  cases eb : blD d with
  | none => rw [eb] at q2; exact q2.elim
  | some k =>
    rw [eb] at q2
    refine ⟨k, bl_rv rx eb, ?_⟩
    obtain ⟨F3, h3, sub⟩ := h2.drop0
    cases k with
    | true => rw [if_pos rfl]; exact pe_back (st.trans (Stp.refl sub)) h3 q2
    | false => rw [if_neg Bool.false_ne_true]; exact fin_new q2 st h2 (.plain ⟨rfl, rfl⟩)
theorem pp_or (ha : PE X a (tP X.K X.mg Eh f)) (hb : PE X (.BoolOp .Or (b :: rest) pos) (tP X.K X.mg Eh g)) : PE X (.BoolOp .Or (a :: b :: rest) pos) (tP X.K X.mg Eh (xOr f g)) := (pe_or ha hb).imp fun s H Q ⟨w, F, hold, q⟩ => by
  refine tP_run hold (Stp.refl fun _ m => m) q fun d w2 v H2 F2 e st h2 q2 => ?_
  obtain ⟨fx, rx, _⟩ := Hold.one h2
  cases eb : blD d with
  | none => rw [eb] at q2; exact q2.elim
  | some k =>
    rw [eb] at q2
    refine ⟨k, bl_rv rx eb, ?_⟩
    obtain ⟨F3, h3, sub⟩ := h2.drop0
    cases k with
    | true => rw [if_pos rfl]; exact fin_new q2 st h2 (.plain ⟨rfl, rfl⟩)
    | false => rw [if_neg Bool.false_ne_true]; exact pe_back (st.trans (Stp.refl sub)) h3 q2
theorem pp_not (ha : PE X a (tP X.K X.mg Eh f)) : PE X (.UnaryOp .Not a pos) (tP X.K X.mg Eh (x1g dNot f)) := (pe_not ha).imp fun s H Q ⟨w, F, hold, q⟩ => by
  refine tP_run hold (Stp.refl fun _ m => m) q fun d w2 v H2 F2 e st h2 q2 => ?_
  obtain ⟨z, hz, q3⟩ := back_po q2
  obtain ⟨fx, rx, _⟩ := Hold.one h2
  cases d with
  | bl k => cases hz; exact ⟨k, rx.1, fin_new q3 st h2 (.plain ⟨rfl, rfl⟩)⟩
  | non => cases hz
  | int i => cases hz
  | str x => cases hz
  | tup x => cases hz
  | lst x => cases hz
  | own x => cases hz
theorem pp_if (hc : PT X c (tT X.K X.mg Eh t)) (ha : PE X a (tP X.K X.mg Eh f)) (hb : PE X b (tP X.K X.mg Eh g)) : PE X (.IfExp c a b pos) (tP X.K X.mg Eh (xIf t f g)) := (pe_ifExp hc ha hb).imp fun s H Q ⟨w, F, hold, q⟩ => by
  refine tT_run hold (Stp.refl fun _ m => m) q fun k w2 H2 F2 e st h2 q2 => ?_
  cases k with
  | true => rw [if_pos rfl] at q2 ⊢; exact pe_back st h2 q2
  | false => rw [if_neg Bool.false_ne_true] at q2 ⊢; exact pe_back st h2 q2
end
end Pm

set_option autoImplicit true
namespace Pm
open PySem PySem.Spec L2

/-! ### slots that are owned: taken and put back -/
section
variable {K : PySem.W.Frag} {H : Hp} {w : Ev} {s : L2.St} {ds : List D} {vs : List V} {F : List Addr}
theorem Hold.takeS {j : Nat} {d : D} (h : Hold K H w s ds vs F) (e : slot w j = some d) : ∃ v, s[j]? = some (some v) ∧ Hold K H (w.set j none) s (d :: ds) (v :: vs) F := by
  obtain ⟨ft, fe, h1, h2, p, nd⟩ := h
  obtain ⟨v, f, g, a, b, c, q⟩ := h2.take (slot_some e)
  refine ⟨v, a, f ++ ft, g, ⟨v, vs, f, ft, rfl, b, h1, rfl⟩, c, ?_, nd⟩
  refine p.trans ((q.append_left ft).trans ?_)
  rw [← List.append_assoc]
  exact (List.perm_append_comm (l₁ := ft) (l₂ := f)).append_right g
theorem Hold.put {j : Nat} {d : D} {v : V} (h : Hold K H w s (d :: ds) (v :: vs) F) (hj : j < w.length) : ∃ F', Hold K H (w.set j (some d)) (s.set j (some v)) ds vs F' ∧ ∀ a ∈ F', a ∈ F := by
  obtain ⟨ft, fe, h1, h2, p, nd⟩ := h
  obtain ⟨v', r, f, g, e1, q, q2, e2⟩ := h1
  injection e1 with e3 e4
  subst e3; subst e4; subst e2
  obtain ⟨g2, h3, g3, pp⟩ := h2.put hj q
  have p2 : F.Perm (g ++ (g3 ++ g2)) := by
    refine p.trans ?_
    rw [List.append_assoc]
    refine (List.perm_append_comm (l₁ := f) (l₂ := g ++ fe)).trans ?_
    rw [List.append_assoc]
    exact ((List.perm_append_comm (l₁ := fe) (l₂ := f)).trans pp).append_left g
  refine ⟨g ++ g2, ⟨g, g2, q2, h3, .refl _, ?_⟩, fun a m => p2.mem_iff.mpr ?_⟩
  · have n2 := p2.nodup_iff.mp nd
    obtain ⟨n3, n4, n5⟩ := List.nodup_append.mp n2
    obtain ⟨n6, n7, n8⟩ := List.nodup_append.mp n4
    exact List.nodup_append.mpr ⟨n3, n7, fun a m b m2 e => n5 a m b (List.mem_append_right _ m2) e⟩
  · rcases List.mem_append.mp m with z | z
    · exact List.mem_append_left _ z
    · exact List.mem_append_right _ (List.mem_append_right _ z)
theorem set_self {α : Type} {s : List α} {j : Nat} {x : α} (h : s[j]? = some x) : s.set j x = s := by
  obtain ⟨hj, e⟩ := List.getElem?_eq_some_iff.mp h
  rw [← e]
  exact List.set_getElem_self hj
theorem Hold.putS {j : Nat} {d : D} {v : V} (h : Hold K H w s (d :: ds) (v :: vs) F) (e : s[j]? = some (some v)) : ∃ F', Hold K H (w.set j (some d)) s ds vs F' ∧ ∀ a ∈ F', a ∈ F := by
  have hl : s.length = w.length := by
    obtain ⟨ft, fe, h1, h2, p, nd⟩ := h
    exact h2.length
  have hj : j < w.length := by rw [← hl]; exact (List.getElem?_eq_some_iff.mp e).1
  obtain ⟨F', h', m⟩ := h.put hj
  rw [set_self e] at h'
  exact ⟨F', h', m⟩
theorem Hold.wipe (h : Hold K H w s ds vs F) (j : Nat) : ∃ F', Hold K H (w.set j none) s ds vs F' ∧ ∀ a ∈ F', a ∈ F := by
  obtain ⟨ft, fe, h1, h2, p, nd⟩ := h
  obtain ⟨g, g', h3, q⟩ := h2.wipe j
  have p2 : F.Perm (ft ++ (g' ++ g)) := p.trans (q.append_left ft)
  refine ⟨ft ++ g, ⟨ft, g, h1, h3, .refl _, ?_⟩, fun a m => p2.mem_iff.mpr ?_⟩
  · have n2 := p2.nodup_iff.mp nd
    obtain ⟨n3, n4, n5⟩ := List.nodup_append.mp n2
    obtain ⟨n6, n7, n8⟩ := List.nodup_append.mp n4
    exact List.nodup_append.mpr ⟨n3, n7, fun a m b m2 e => n5 a m b (List.mem_append_right _ m2) e⟩
  · rcases List.mem_append.mp m with z | z
    · exact List.mem_append_left _ z
    · exact List.mem_append_right _ (List.mem_append_right _ z)
theorem Hold.setNone {j : Nat} {x : Option V} (h : Hold K H w s ds vs F) (e : w[j]? = some none) : Hold K H w (s.set j x) ds vs F := by
  obtain ⟨ft, fe, h1, h2, p, nd⟩ := h
  exact ⟨ft, fe, h1, h2.setNone j x e, p, nd⟩
/-- an owned list that is held is written anew -/
theorem Hold.wr {xs xs' : List D} {a : Addr} {us' : List V} (h : Hold K H w s (.own xs :: ds) (.ref a :: vs) F) :
    ∃ us, H a = some (.lst us) ∧ xs.length = us.length ∧ a ∈ F ∧ Mut (H a) ∧
      ∀ xs' us', (∀ H', Kp [a] H H' → ∀ ft f, RVs K H' ds vs ft → RVs K H' xs us f → ∃ f', RVs K H' xs' us' f' ∧ ∃ g, (f ++ ft).Perm (g ++ f')) →
        ∃ F', Hold K (upd H a (.lst us')) w s [.own xs'] [.ref a] F' ∧ (∀ a ∈ F', a ∈ F) ∧ Stp F H F' (upd H a (.lst us')) := by
  obtain ⟨ft0, fe, h1, h2, p, nd⟩ := h
  obtain ⟨v', r, f0, ft, e1, q, q2, e2⟩ := h1
  injection e1 with e3 e4
  subst e3; subst e4; subst e2
  obtain ⟨a', us, f, e5, q5, r5, e6⟩ := q
  cases e5
  subst e6
  have ma : a ∈ F := p.mem_iff.mpr (List.mem_append_left _ (List.mem_append_left _ List.mem_cons_self))
  refine ⟨us, q5, r5.length, ma, by rw [q5]; trivial, fun xs' us' hx => ?_⟩
  have k : Kp [a] H (upd H a (.lst us')) := fun b o e n => by rw [upd_ne (fun z => n (by rw [z]; exact List.mem_cons_self))]; exact e
  have mk : ∀ b ∈ [a], Mut (H b) := fun b m => by
    have e : b = a := by simpa using m
    rw [e, q5]; trivial
  have n0 : (a :: (f ++ (ft ++ fe))).Nodup := by
    have := p.nodup_iff.mp nd
    rw [List.append_assoc] at this
    exact this
  obtain ⟨na, n1⟩ := List.nodup_cons.mp n0
  have apart : ∀ (l : List Addr), (∀ b ∈ l, b ∈ f ++ (ft ++ fe)) → ∀ b ∈ l, b ∉ [a] := fun l m b mb z => by
    have e : b = a := by simpa using z
    exact na (e ▸ m b mb)
  have rf := RVs.kp k mk xs us f (apart f fun b m => List.mem_append_left _ m) r5
  have rt := RVs.kp k mk ds vs ft (apart ft fun b m => List.mem_append_right _ (List.mem_append_left _ m)) q2
  have re := h2.kp k mk (apart fe fun b m => List.mem_append_right _ (List.mem_append_right _ m))
  obtain ⟨f', r', g, pg⟩ := hx _ k ft f rt rf
  have pF : F.Perm (a :: (g ++ f') ++ fe) := by
    refine p.trans ?_
    show (a :: (f ++ ft) ++ fe).Perm (a :: (g ++ f') ++ fe)
    exact (pg.cons a).append_right fe
  refine ⟨a :: f' ++ fe, ⟨a :: f', fe, RVs.one ⟨a, us', f', rfl, upd_same, r', rfl⟩, re, .refl _, ?_⟩, ?_⟩
  · have n2 := pF.nodup_iff.mp nd
    rw [List.cons_append] at n2
    obtain ⟨nb, n3⟩ := List.nodup_cons.mp n2
    rw [List.append_assoc] at n3 nb
    obtain ⟨n4, n5, n6⟩ := List.nodup_append.mp n3
    rw [List.cons_append]
    exact List.nodup_cons.mpr ⟨fun z => nb (List.mem_append_right _ z), n5⟩
  · have sub : ∀ b ∈ a :: f' ++ fe, b ∈ F := fun b m => pF.mem_iff.mpr (by
      rw [List.cons_append] at m
      rcases List.mem_cons.mp m with z | z
      · rw [z]; exact List.mem_append_left _ List.mem_cons_self
      · rcases List.mem_append.mp z with z | z
        · exact List.mem_append_left _ (List.mem_cons_of_mem _ (List.mem_append_right _ z))
        · exact List.mem_append_right _ z)
    exact ⟨sub, fun b o e n => k b o e fun z => n (by
      have e2 : b = a := by simpa using z
      rw [e2]; exact ma), fun b m => .inl (sub b m)⟩
theorem RVs.setD : ∀ {xs : List D} {us : List V} {f ft : List Addr} {k : Nat} {d : D} {v : V}, RVs K H xs us f → RV K H d v ft → k < xs.length → ∃ f', RVs K H (xs.set k d) (us.set k v) f' ∧ ∃ g, (f ++ ft).Perm (g ++ f')
  | [], us, f, ft, k, d, v, r, rv, hk => absurd hk (by simp)
  | x :: xs, us, f, ft, 0, d, v, r, rv, hk => by
    obtain ⟨u, t, f1, g1, e, q, q2, e2⟩ := r
    subst e; subst e2
    refine ⟨ft ++ g1, ⟨v, t, ft, g1, rfl, rv, q2, rfl⟩, f1, ?_⟩
    rw [List.append_assoc]
    exact (List.perm_append_comm (l₁ := g1) (l₂ := ft)).append_left f1
  | x :: xs, us, f, ft, k + 1, d, v, r, rv, hk => by
    obtain ⟨u, t, f1, g1, e, q, q2, e2⟩ := r
    subst e; subst e2
    obtain ⟨f', r', g, pg⟩ := RVs.setD (k := k) q2 rv (by simpa using hk)
    refine ⟨f1 ++ f', ⟨u, _, f1, f', rfl, q, r', rfl⟩, g, ?_⟩
    rw [List.append_assoc]
    refine (pg.append_left f1).trans ?_
    rw [← List.append_assoc, ← List.append_assoc]
    exact (List.perm_append_comm (l₁ := f1) (l₂ := g)).append_right f'
theorem RVs.erase : ∀ {xs : List D} {us : List V} {f : List Addr} {k : Nat} {d : D}, RVs K H xs us f → xs[k]? = some d → ∃ v f1 f2, us[k]? = some v ∧ RV K H d v f1 ∧ RVs K H (xs.eraseIdx k) (us.eraseIdx k) f2 ∧ f.Perm (f1 ++ f2)
  | [], us, f, k, d, r, hk => by simp at hk
  | x :: xs, us, f, 0, d, r, hk => by
    obtain ⟨u, t, f1, g1, e, q, q2, e2⟩ := r
    subst e; subst e2
    simp at hk
    subst hk
    exact ⟨u, f1, g1, rfl, q, q2, .refl _⟩
  | x :: xs, us, f, k + 1, d, r, hk => by
    obtain ⟨u, t, f1, g1, e, q, q2, e2⟩ := r
    subst e; subst e2
    obtain ⟨v, h1, h2, e3, r3, r4, p⟩ := RVs.erase (k := k) q2 (by simpa using hk)
    refine ⟨v, h1, f1 ++ h2, by simpa using e3, r3, ⟨u, _, f1, h2, rfl, q, r4, rfl⟩, ?_⟩
    refine (p.append_left f1).trans ?_
    rw [← List.append_assoc, ← List.append_assoc]
    exact (List.perm_append_comm (l₁ := f1) (l₂ := h1)).append_right h2
end

/-! ### statements -/
inductive Fl where
  | nx | bk | ct | rt (d : D)
def Agr (wr : List Nat) (s s' : L2.St) : Prop := s'.length = s.length ∧ ∀ i, i ∉ wr → s'[i]? = s[i]?
theorem Agr.refl (wr : List Nat) (s : L2.St) : Agr wr s s := ⟨rfl, fun _ _ => rfl⟩
theorem Agr.trans {wr : List Nat} {a b c : L2.St} (h : Agr wr a b) (h' : Agr wr b c) : Agr wr a c := ⟨h'.1.trans h.1, fun i n => (h'.2 i n).trans (h.2 i n)⟩
theorem Agr.mono {wr wr' : List Nat} {a b : L2.St} (h : Agr wr a b) (m : ∀ i ∈ wr, i ∈ wr') : Agr wr' a b := ⟨h.1, fun i n => h.2 i fun z => n (m i z)⟩
theorem Agr.set {wr : List Nat} {s : L2.St} {i : Nat} {x : Option V} (m : i ∈ wr) : Agr wr s (s.set i x) := ⟨List.length_set, fun k n => by
  rw [List.getElem?_set_ne]
  exact fun e => n (e ▸ m)⟩
section
variable (K : PySem.W.Frag) (mg : Str → Option Value) (Eh : WX) (wr : List Nat)
def PoS (H : Hp) (F : List Addr) (s : L2.St) (r : Rs Fl) (E : Ends) : Prop :=
  match r with
  | .ok .nx w => ∀ s' H' F', Stp F H F' H' → Agr wr s s' → Hold K H' w s' [] [] F' → E.nx s' H'
  | .ok .bk w => ∀ s' H' F', Stp F H F' H' → Agr wr s s' → Hold K H' w s' [] [] F' → E.bk s' H'
  | .ok .ct w => ∀ s' H' F', Stp F H F' H' → Agr wr s s' → Hold K H' w s' [] [] F' → E.ct s' H'
  | .ok (.rt d) w => ∀ v s' H' F', Stp F H F' H' → Agr wr s s' → Hold K H' w s' [d] [v] F' → E.rt v H'
  | .ex c fs w => ∀ cls od s' H' F', Stp F H F' H' → Agr wr s s' → Hold K H' w s' [] [] F' → ExR K mg H' c fs cls od → Eh cls od s' H'
  | .bad => False
def tS (f : PM Fl) : TS := fun E s H => ∃ w F, Hold K H w s [] [] F ∧ PoS K mg Eh wr H F s (f w) E
end
section
variable {X : Cx} {Eh : WX} {wr wr' wr1 wr2 : List Nat} {H H1 : Hp} {F F1 : List Addr} {s s1 : L2.St} {E : Ends}
/-- behind a step -/
theorem PoS.step {r : Rs Fl} (h : PoS X.K X.mg Eh wr H F s r E) (st : Stp F H F1 H1) (ag : Agr wr s s1) : PoS X.K X.mg Eh wr H1 F1 s1 r E := by
  cases r with
  | ok fl w =>
    cases fl with
    | nx => exact fun s' H' F' st' ag' h' => h s' H' F' (st.trans st') (ag.trans ag') h'
    | bk => exact fun s' H' F' st' ag' h' => h s' H' F' (st.trans st') (ag.trans ag') h'
    | ct => exact fun s' H' F' st' ag' h' => h s' H' F' (st.trans st') (ag.trans ag') h'
    | rt d => exact fun v s' H' F' st' ag' h' => h v s' H' F' (st.trans st') (ag.trans ag') h'
  | ex c fs w => exact fun cls od s' H' F' st' ag' h' x => h cls od s' H' F' (st.trans st') (ag.trans ag') h' x
  | bad => exact h
theorem PoS.weak {r : Rs Fl} (h : PoS X.K X.mg Eh wr' H F s r E) (m : ∀ i ∈ wr, i ∈ wr') : PoS X.K X.mg Eh wr H F s r E := by
  cases r with
  | ok fl w =>
    cases fl with
    | nx => exact fun s' H' F' st' ag' h' => h s' H' F' st' (ag'.mono m) h'
    | bk => exact fun s' H' F' st' ag' h' => h s' H' F' st' (ag'.mono m) h'
    | ct => exact fun s' H' F' st' ag' h' => h s' H' F' st' (ag'.mono m) h'
    | rt d => exact fun v s' H' F' st' ag' h' => h v s' H' F' st' (ag'.mono m) h'
  | ex c fs w => exact fun cls od s' H' F' st' ag' h' x => h cls od s' H' F' st' (ag'.mono m) h' x
  | bad => exact h
theorem tS_of {f : PM Fl} {w : Ev} (hold : Hold X.K H w s [] [] F) (m : ∀ i ∈ wr, i ∈ wr') (h : PoS X.K X.mg Eh wr' H F s (f w) E) : tS X.K X.mg Eh wr f E s H := ⟨w, F, hold, h.weak m⟩
/-- an expression ahead of the rest of a statement -/
theorem tP_runS {f : PM D} {k : D → Ev → Rs Fl} {R : VK} {w1 : Ev} {ds : List D} {vs : List V}
    (hold : Hold X.K H1 w1 s ds vs F1) (st : Stp F H F1 H1) (h : PoS X.K X.mg Eh wr H F s ((f w1).bind k) E)
    (c : ∀ d w2 v H2 F2, f w1 = .ok d w2 → Stp F H F2 H2 → Hold X.K H2 w2 s (ds ++ [d]) (vs ++ [v]) F2 → PoS X.K X.mg Eh wr H F s (k d w2) E → R v H2) : tP X.K X.mg Eh f s H1 R := by
  obtain ⟨F0, h0, sub, fr⟩ := hold.frame
  refine ⟨w1, F0, h0, ?_⟩
  cases e : f w1 with
  | ok d w2 =>
    rw [e] at h
    intro v H' F' st' h'
    obtain ⟨F2, h2, st2⟩ := fr st' h'
    exact c d w2 v H' F2 e (st.trans st2) h2 h
  | ex cc fs w2 =>
    rw [e] at h
    intro cls od H' F' st' h' x
    exact h cls od s H' F' (st.trans (st'.mono sub)) (.refl _ _) h' x
  | bad => rw [e] at h; exact h
theorem tA_runS {f : PM (List D)} {k : List D → Ev → Rs Fl} {R : List V → Hp → Prop} {w1 : Ev} {ds : List D} {vs : List V}
    (hold : Hold X.K H1 w1 s ds vs F1) (st : Stp F H F1 H1) (h : PoS X.K X.mg Eh wr H F s ((f w1).bind k) E)
    (c : ∀ es w2 us H2 F2, f w1 = .ok es w2 → Stp F H F2 H2 → Hold X.K H2 w2 s (ds ++ es) (vs ++ us) F2 → PoS X.K X.mg Eh wr H F s (k es w2) E → R us H2) : tA X.K X.mg Eh f s H1 R := by
  obtain ⟨F0, h0, sub, fr⟩ := hold.frame
  refine ⟨w1, F0, h0, ?_⟩
  cases e : f w1 with
  | ok d w2 =>
    rw [e] at h
    intro v H' F' st' h'
    obtain ⟨F2, h2, st2⟩ := fr st' h'
    exact c d w2 v H' F2 e (st.trans st2) h2 h
  | ex cc fs w2 =>
    rw [e] at h
    intro cls od H' F' st' h' x
    exact h cls od s H' F' (st.trans (st'.mono sub)) (.refl _ _) h' x
  | bad => rw [e] at h; exact h
theorem tT_runS {f : PM Bool} {k : Bool → Ev → Rs Fl} {R : Bool → Hp → Prop} {w1 : Ev}
    (hold : Hold X.K H1 w1 s [] [] F1) (st : Stp F H F1 H1) (h : PoS X.K X.mg Eh wr H F s ((f w1).bind k) E)
    (c : ∀ b w2 H2 F2, f w1 = .ok b w2 → Stp F H F2 H2 → Hold X.K H2 w2 s [] [] F2 → PoS X.K X.mg Eh wr H F s (k b w2) E → R b H2) : tT X.K X.mg Eh f s H1 R := by
  refine ⟨w1, F1, hold, ?_⟩
  cases e : f w1 with
  | ok d w2 =>
    rw [e] at h
    intro H' F' st' h'
    exact c d w2 H' F' e (st.trans st') h' h
  | ex cc fs w2 =>
    rw [e] at h
    intro cls od H' F' st' h' x
    exact h cls od s H' F' (st.trans st') (.refl _ _) h' x
  | bad => rw [e] at h; exact h

/-! small statements -/
def sNx : PM Fl := fun w => .ok .nx w
def sBk : PM Fl := fun w => .ok .bk w
def sCt : PM Fl := fun w => .ok .ct w
def sSeq (f g : PM Fl) : PM Fl := fun w => (f w).bind fun fl w1 => match fl with
  | .nx => g w1
  | o => .ok o w1
def sIf (t : PM Bool) (f g : PM Fl) : PM Fl := fun w => (t w).bind fun b w1 => if b = true then f w1 else g w1
def sRet (f : PM D) : PM Fl := fun w => (f w).bind fun d w1 => .ok (.rt d) w1
def sExpr (f : PM D) : PM Fl := fun w => (f w).bind fun _ w1 => .ok .nx w1
def setE (w : Ev) (i : Nat) (d : D) : Option Ev := if i < w.length then some (w.set i (some d)) else none
def backW (o : Option Ev) : Rs Fl := match o with
  | some w => .ok .nx w
  | none => .bad
@[simp] theorem backW_some (w : Ev) : backW (some w) = .ok .nx w := rfl
@[simp] theorem backW_none : backW none = .bad := rfl
def sSet (i : Nat) (f : PM D) : PM Fl := fun w => (f w).bind fun d w1 => backW (setE w1 i d)
theorem ss_nil : PSs X [] (tS X.K X.mg Eh [] sNx) := pss_nil.imp fun E s H ⟨w, F, hold, q⟩ => q s H F (Stp.refl fun _ m => m) (.refl _ _) hold
theorem ss_pass {pos : Pos} : PS X (.Pass pos) (tS X.K X.mg Eh [] sNx) := ps_pass.imp fun E s H ⟨w, F, hold, q⟩ => q s H F (Stp.refl fun _ m => m) (.refl _ _) hold
theorem ss_break {pos : Pos} : PS X (.Break pos) (tS X.K X.mg Eh [] sBk) := ps_break.imp fun E s H ⟨w, F, hold, q⟩ => q s H F (Stp.refl fun _ m => m) (.refl _ _) hold
theorem ss_cont {pos : Pos} : PS X (.Continue pos) (tS X.K X.mg Eh [] sCt) := ps_continue.imp fun E s H ⟨w, F, hold, q⟩ => q s H F (Stp.refl fun _ m => m) (.refl _ _) hold
/-- a statement, with what follows it -/
theorem tS_run {f : PM Fl} {k : Fl → Ev → Rs Fl} {R : L2.St → Hp → Prop} {w1 : Ev} (hold : Hold X.K H1 w1 s1 [] [] F1) (st : Stp F H F1 H1) (ag : Agr wr s s1) (m : ∀ i ∈ wr1, i ∈ wr)
    (h : PoS X.K X.mg Eh wr H F s ((f w1).bind k) E) (hk : ∀ fl w, fl ≠ .nx → k fl w = .ok fl w)
    (c : ∀ w2 s2 H2 F2, Stp F H F2 H2 → Agr wr s s2 → Hold X.K H2 w2 s2 [] [] F2 → PoS X.K X.mg Eh wr H F s (k .nx w2) E → R s2 H2) : tS X.K X.mg Eh wr1 f { E with nx := R } s1 H1 := by
  refine ⟨w1, F1, hold, ?_⟩
  cases e : f w1 with
  | bad => rw [e] at h; exact h
  | ex cc fs w2 =>
    rw [e] at h
    exact fun cls od s' H' F' st' ag' h' x => h cls od s' H' F' (st.trans st') (ag.trans (ag'.mono m)) h' x
  | ok fl w2 =>
    rw [e] at h
    rw [Rs.bind_ok] at h
    cases fl with
    | nx => exact fun s' H' F' st' ag' h' => c w2 s' H' F' (st.trans st') (ag.trans (ag'.mono m)) h' h
    | bk => rw [hk .bk w2 (by intro z; cases z)] at h; exact fun s' H' F' st' ag' h' => h s' H' F' (st.trans st') (ag.trans (ag'.mono m)) h'
    | ct => rw [hk .ct w2 (by intro z; cases z)] at h; exact fun s' H' F' st' ag' h' => h s' H' F' (st.trans st') (ag.trans (ag'.mono m)) h'
    | rt d => rw [hk (.rt d) w2 (by intro z; cases z)] at h; exact fun v s' H' F' st' ag' h' => h v s' H' F' (st.trans st') (ag.trans (ag'.mono m)) h'
theorem ss_cons {st : Stmt} {rest : List Stmt} {f g : PM Fl} (h1 : PS X st (tS X.K X.mg Eh wr1 f)) (h2 : PSs X rest (tS X.K X.mg Eh wr2 g)) : PSs X (st :: rest) (tS X.K X.mg Eh (wr1 ++ wr2) (sSeq f g)) := (pss_cons h1 h2).imp fun E s H ⟨w, F, hold, q⟩ => by
  refine tS_run hold (Stp.refl fun _ m => m) (.refl _ _) (fun i m => List.mem_append_left _ m) q (fun fl w n => ?_) fun w2 s2 H2 F2 st ag h2 q2 => ?_
  · cases fl with
    | nx => exact absurd rfl n
    | bk => rfl
    | ct => rfl
    | rt d => rfl
  · exact tS_of h2 (fun i m => List.mem_append_right _ m) (q2.step st ag)
theorem ss_one {st : Stmt} {f : PM Fl} (h1 : PS X st (tS X.K X.mg Eh wr f)) : PSs X [st] (tS X.K X.mg Eh wr f) := pss_one h1
theorem ss_if {c : Expr} {a b : List Stmt} {pos : Pos} {t : PM Bool} {f g : PM Fl} (hc : PT X c (tT X.K X.mg Eh t)) (ha : PSs X a (tS X.K X.mg Eh wr1 f)) (hb : PSs X b (tS X.K X.mg Eh wr2 g)) : PS X (.If c a b pos) (tS X.K X.mg Eh (wr1 ++ wr2) (sIf t f g)) := (ps_if hc ha hb).imp fun E s H ⟨w, F, hold, q⟩ => by
  refine tT_runS hold (Stp.refl fun _ m => m) q fun k w2 H2 F2 e st h2 q2 => ?_
  cases k with
  | true => rw [if_pos rfl] at q2 ⊢; exact tS_of h2 (fun i m => List.mem_append_left _ m) (q2.step st (.refl _ _))
  | false => rw [if_neg Bool.false_ne_true] at q2 ⊢; exact tS_of h2 (fun i m => List.mem_append_right _ m) (q2.step st (.refl _ _))
theorem ss_ret {e : Expr} {pos : Pos} {f : PM D} (he : PE X e (tP X.K X.mg Eh f)) : PS X (.Return (some e) pos) (tS X.K X.mg Eh [] (sRet f)) := (ps_ret he).imp fun E s H ⟨w, F, hold, q⟩ => by
  refine tP_runS hold (Stp.refl fun _ m => m) q fun d w2 v H2 F2 e st h2 q2 => ?_
  exact q2 v s H2 F2 st (.refl _ _) h2
theorem ss_retN {pos : Pos} : PS X (.Return none pos) (tS X.K X.mg Eh [] (sRet (xC .non))) := ps_retN.imp fun E s H ⟨w, F, hold, q⟩ => by
  obtain ⟨ft, fe, h1, h2, p, nd⟩ := hold
  have e0 : ft = [] := h1.2
  subst e0
  exact q .non s H F (Stp.refl fun _ m => m) (.refl _ _) ⟨[], fe, RVs.one ⟨rfl, rfl⟩, h2, p, nd⟩
theorem ss_expr {e : Expr} {pos : Pos} {f : PM D} (he : PE X e (tP X.K X.mg Eh f)) (hs : swapsWith e none pos.line X.env = pure false := by rfl) : PS X (.Expr e pos) (tS X.K X.mg Eh [] (sExpr f)) := (ps_expr he hs).imp fun E s H ⟨w, F, hold, q⟩ => by
  refine tP_runS hold (Stp.refl fun _ m => m) q fun d w2 v H2 F2 e st h2 q2 => ?_
  obtain ⟨F3, h3, sub⟩ := h2.drop0
  exact q2 s H2 F3 (st.trans (Stp.refl sub)) (.refl _ _) h3
/-- a name's store -/
theorem set_po {i : Nat} {d : D} {v : V} {w : Ev} {H2 : Hp} {F2 : List Addr} (hi : i ∈ wr) (st : Stp F H F2 H2) (ag : Agr wr s s1) (h2 : Hold X.K H2 w s1 [d] [v] F2) (q : PoS X.K X.mg Eh wr H F s (backW (setE w i d)) E) : E.nx (s1.set i (some v)) H2 := by
  unfold setE at q
  by_cases c : i < w.length
  · rw [if_pos c] at q
    obtain ⟨F3, h3, sub⟩ := h2.put c
    exact q _ H2 F3 (st.trans (Stp.refl sub)) (ag.trans (.set hi)) h3
  · rw [if_neg c] at q; exact q.elim
theorem set_imp {i : Nat} {f : PM D} (h : tS X.K X.mg Eh [i] (sSet i f) E s H) : tAsg (tP X.K X.mg Eh f) (gName i) E s H := by
  obtain ⟨w, F, hold, q⟩ := h
  refine tP_runS hold (Stp.refl fun _ m => m) q fun d w2 v H2 F2 e st h2 q2 => ?_
  exact set_po List.mem_cons_self st (.refl _ _) h2 q2
theorem ss_set {i : Nat} {x : Str} {e : Expr} {f : PM D} {pos pos' : Pos} (hN : X.N.Nodup) (hi : X.N[i]? = some x) (hx : Loc X.env.scope x) (he : PE X e (tP X.K X.mg Eh f)) (hs : swapsWith e (some (.Name x pos')) pos.line X.env = pure false := by rfl) (hf : X.fn x = true ∨ X.env.scope.names.lookup x = some .local := by first | exact .inl rfl | exact .inr rfl | assumption) :
    PS X (.Assign [.Name x pos'] e pos) (tS X.K X.mg Eh [i] (sSet i f)) := (ps_set hN hi hx he hs hf).imp fun E s H h => set_imp h
end

/-! ### methods that change a slot's list -/
def ownD : D → Option (List D)
  | .own xs => some xs
  | _ => none
theorem ownD_some {d : D} {xs : List D} (h : ownD d = some xs) : d = .own xs := by
  cases d with
  | own ys => cases h; rfl
  | non => cases h
  | bl i => cases h
  | int i => cases h
  | str x => cases h
  | tup x => cases h
  | lst x => cases h
/-- x.append(e), x in slot j -/
def xApp (j : Nat) (f : PM D) : PM D := fun w => match (slot w j).bind ownD with
  | some _ => (f w).bind fun d w1 => match (slot w1 j).bind ownD with
    | some xs => if xs.length < sizeLine then .ok .non (w1.set j (some (.own (xs ++ [d])))) else .bad
    | none => .bad
  | none => .bad
/-- x.pop(e), x in slot j -/
def xPopAt (j : Nat) (f : PM D) : PM D := fun w => match (slot w j).bind ownD with
  | some _ => (f w).bind fun d w1 => match (slot w1 j).bind ownD, d with
    | some xs, .int i => match ixN xs.length i with
      | some k => match xs[k]? with
        | some y => if xs.length ≤ sizeLine then .ok y (w1.set j (some (.own (xs.eraseIdx k)))) else .bad
        | none => .bad
      | none => .bad
    | _, _ => .bad
  | none => .bad
/-- x.pop() -/
def xPop (j : Nat) : PM D := fun w => match (slot w j).bind ownD with
  | some xs => match xs[xs.length - 1]? with
    | some y => .ok y (w.set j (some (.own (xs.eraseIdx (xs.length - 1)))))
    | none => .bad
  | none => .bad
/-- x[g] = f -/
def sSetI (j : Nat) (f g : PM D) : PM Fl := fun w => (f w).bind fun d w1 => match slot w1 j with
  | some _ => (g w1).bind fun i w2 => match (slot w2 j).bind ownD, i with
    | some xs, .int n => match ixN xs.length n with
      | some k => .ok .nx (w2.set j (some (.own (xs.set k d))))
      | none => .bad
    | _, _ => .bad
  | none => .bad
theorem ixN_lt {n : Nat} {i : Int} {k : Nat} (h : ixN n i = some k) : k < n := (ixN_seq h).2.1
section
variable {X : Cx} {Eh : WX} {wr : List Nat} {H : Hp} {F : List Addr} {s : L2.St} {E : Ends} {o e : Expr} {apos cpos : Pos} {j : Nat} {f g : PM D}
theorem slotOwn {w : Ev} {xs : List D} (h : (slot w j).bind ownD = some xs) : slot w j = some (.own xs) := by
  obtain ⟨d, h1, h2⟩ := Option.bind_eq_some_iff.mp h
  rw [h1, ownD_some h2]
theorem own_at {K : PySem.W.Frag} {w : Ev} {xs : List D} {ds : List D} {vs : List V} (hold : Hold K H w s ds vs F) (h : slot w j = some (.own xs)) : ∃ a us, s[j]? = some (some (.ref a)) ∧ H a = some (.lst us) := by
  obtain ⟨v, f, e1, r, m⟩ := hold.atSlot h
  obtain ⟨a, us, g, e2, q, _⟩ := r
  exact ⟨a, us, by rw [e1, e2], q⟩
theorem pp_app (ho : PE X o (tV X.K j)) (ha : PE X e (tP X.K X.mg Eh f))
    (hbase : attributeBase o "append" X.env (eval o X.env) = eval o X.env := by rfl)
    (hfew : ((backTo cpos (starEach (e :: []) X.env)).all (fun x => !x.1) && (backToKw cpos (keywordEach [] X.env)).all (fun x => x.1.isSome)
      && decide ((e :: []).length + ([] : List Keyword).length + (if ([] : List Keyword).isEmpty then 0 else 1) < 30)) = true := by rfl)
    (hline : (apos.endLine == cpos.line) = true := by rfl) (hs : starEach (e :: []) X.env = (false, eval e X.env) :: starEach [] X.env := by rfl) (hplain : (backTo cpos (starEach [] X.env)).any (·.1) = false := by rfl) :
    PE X (.Call (.Attribute o "append" apos) [e] [] cpos) (tP X.K X.mg Eh (xApp j f)) :=
  (pe_bm PySem.F.plainAttrs_list PySem.F.slot_list_append PySem.F.type_list_append mt_append ho (pa_cons ha pa_nil hs) hbase hfew hline hs hplain).imp fun s H Q ⟨w, F, hold, q⟩ => by
    unfold xApp at q
    cases e0 : (slot w j).bind ownD with
    | none => rw [e0] at q; exact q.elim
    | some xs0 =>
      rw [e0] at q
      refine tV_run hold (slotOwn e0) fun v0 f0 ej r0 _ => ?_
      obtain ⟨a, us0, g0, ea, qa, _⟩ := r0
      subst ea
      refine ⟨.inl ⟨rfl, us0, .of qa⟩, ?_⟩
      refine tP_run hold (Stp.refl fun _ m => m) q fun d w2 v H2 F2 e st h2 q2 => ?_
      cases e1 : (slot w2 j).bind ownD with
      | none => rw [e1] at q2; exact q2.elim
      | some xs =>
        rw [e1] at q2
        by_cases c : xs.length < sizeLine
        · replace q2 := (show Po X.K X.mg Eh _ _ _ (if xs.length < sizeLine then Rs.ok D.non (w2.set j (some (.own (xs ++ [d])))) else .bad) _ from q2)
          rw [if_pos c] at q2
          obtain ⟨v', ej', h3⟩ := Hold.takeS (ds := [d]) (vs := [v]) h2 (slotOwn e1)
          rw [ej] at ej'
          cases ej'
          obtain ⟨us, hu, hl, _, _, wrt⟩ := Hold.wr (xs' := xs) (us' := us0) h3
          obtain ⟨F4, h4, sub, st4⟩ := wrt (xs ++ [d]) (us ++ [v]) fun H' k ft f r1 r2 => ⟨f ++ ft, r2.append r1, [], .refl _⟩
          refine ⟨a, us, v, rfl, rfl, hu, by rw [← hl]; exact c, ?_⟩
          obtain ⟨F5, h5, sub5⟩ := Hold.putS h4 ej
          rw [List.set_set] at h5
          exact fin_new q2 ((st.trans st4).trans (Stp.refl sub5)) h5 (.plain ⟨rfl, rfl⟩)
        · replace q2 := (show Po X.K X.mg Eh _ _ _ (if xs.length < sizeLine then Rs.ok D.non (w2.set j (some (.own (xs ++ [d])))) else .bad) _ from q2)
          rw [if_neg c] at q2; exact q2.elim
theorem pp_popAt (ho : PE X o (tV X.K j)) (ha : PE X e (tP X.K X.mg Eh f))
    (hbase : attributeBase o "pop" X.env (eval o X.env) = eval o X.env := by rfl)
    (hfew : ((backTo cpos (starEach (e :: []) X.env)).all (fun x => !x.1) && (backToKw cpos (keywordEach [] X.env)).all (fun x => x.1.isSome)
      && decide ((e :: []).length + ([] : List Keyword).length + (if ([] : List Keyword).isEmpty then 0 else 1) < 30)) = true := by rfl)
    (hline : (apos.endLine == cpos.line) = true := by rfl) (hs : starEach (e :: []) X.env = (false, eval e X.env) :: starEach [] X.env := by rfl) (hplain : (backTo cpos (starEach [] X.env)).any (·.1) = false := by rfl) :
    PE X (.Call (.Attribute o "pop" apos) [e] [] cpos) (tP X.K X.mg Eh (xPopAt j f)) :=
  (pe_bm PySem.F.plainAttrs_list PySem.F.slot_list_pop PySem.F.type_list_pop mt_popAt ho (pa_cons ha pa_nil hs) hbase hfew hline hs hplain).imp fun s H Q ⟨w, F, hold, q⟩ => by
    unfold xPopAt at q
    cases e0 : (slot w j).bind ownD with
    | none => rw [e0] at q; exact q.elim
    | some xs0 =>
      rw [e0] at q
      refine tV_run hold (slotOwn e0) fun v0 f0 ej r0 _ => ?_
      obtain ⟨a, us0, g0, ea, qa, _⟩ := r0
      subst ea
      refine ⟨.inl ⟨rfl, us0, .of qa⟩, ?_⟩
      refine tP_run hold (Stp.refl fun _ m => m) q fun d w2 v H2 F2 e st h2 q2 => ?_
      cases e1 : (slot w2 j).bind ownD with
      | none => rw [e1] at q2; exact q2.elim
      | some xs =>
        rw [e1] at q2
        cases d with
        | int i =>
          dsimp only at q2
          cases e2 : ixN xs.length i with
          | none => rw [e2] at q2; exact q2.elim
          | some k =>
            rw [e2] at q2
            dsimp only at q2
            cases e3 : xs[k]? with
            | none => rw [e3] at q2; exact q2.elim
            | some y =>
              rw [e3] at q2
              dsimp only at q2
              by_cases c : xs.length ≤ sizeLine
              · rw [if_pos c] at q2
                obtain ⟨fx, rx, _⟩ := Hold.one h2
                obtain ⟨F2', h2', sub2⟩ := h2.drop0
                obtain ⟨v', ej', h3⟩ := Hold.takeS (ds := []) (vs := []) h2' (slotOwn e1)
                rw [ej] at ej'
                cases ej'
                -- the item leaves the list
                obtain ⟨ft0, fe, k1, k2, p, nd⟩ := h3
                obtain ⟨a', us, f, e5, q5, r5, e6⟩ := k1.one'
                cases e5
                obtain ⟨u, f1, f2, e7, r6, r7, p2⟩ := RVs.erase r5 e3
                have hl := r5.length
                have line : sizeLine < 2 ^ 63 := line63
                obtain ⟨z1, z2, z3, z4⟩ := ixN_seq e2
                refine ⟨a, us, i, k, u, rfl, by rw [rx.1], q5, by omega, by omega, by rw [← hl]; exact z1, e7, ?_⟩
                have kk : Kp [a] H2 (upd H2 a (.lst (us.eraseIdx k))) := fun b o e n => by rw [upd_ne (fun z => n (by rw [z]; exact List.mem_cons_self))]; exact e
                have mk : ∀ b ∈ [a], Mut (H2 b) := fun b m => by
                  have e : b = a := by simpa using m
                  rw [e, q5]; trivial
                subst e6
                have n0 := p.nodup_iff.mp nd
                rw [List.cons_append] at n0
                obtain ⟨na, n1⟩ := List.nodup_cons.mp n0
                have pF : F2'.Perm (a :: (f1 ++ f2) ++ fe) := p.trans ((p2.cons a).append_right fe)
                have apart : ∀ (l : List Addr), (∀ b ∈ l, b ∈ f ++ fe) → ∀ b ∈ l, b ∉ [a] := fun l m b mb z => by
                  have e : b = a := by simpa using z
                  exact na (e ▸ m b mb)
                have i1 : ∀ b ∈ f1, b ∈ f := fun b m => p2.mem_iff.mpr (List.mem_append_left _ m)
                have i2 : ∀ b ∈ f2, b ∈ f := fun b m => p2.mem_iff.mpr (List.mem_append_right _ m)
                have R1 := RV.kp kk mk y u f1 (apart f1 fun b m => List.mem_append_left _ (i1 b m)) r6
                have R2 := RVs.kp kk mk _ _ f2 (apart f2 fun b m => List.mem_append_left _ (i2 b m)) r7
                have R3 := k2.kp kk mk (apart fe fun b m => List.mem_append_right _ m)
                have h5 : Hold X.K (upd H2 a (.lst (us.eraseIdx k))) (w2.set j none) s [.own (xs.eraseIdx k), y] [.ref a, u] F2' := by
                  refine ⟨(a :: f2) ++ f1, fe, ⟨.ref a, [u], a :: f2, f1, rfl, ⟨a, _, f2, rfl, upd_same, R2, rfl⟩, RVs.one R1, rfl⟩, R3, pF.trans ?_, nd⟩
                  exact ((List.perm_append_comm (l₁ := f1) (l₂ := f2)).cons a).append_right fe
                have ma : a ∈ F2' := pF.mem_iff.mpr (List.mem_append_left _ List.mem_cons_self)
                obtain ⟨F5, h6, sub5⟩ := Hold.putS h5 ej
                rw [List.set_set] at h6
                refine q2 u _ F5 ((st.trans (Stp.refl sub2)).trans (F1 := F2') ⟨fun b o e n => kk b o e fun z => n ?_, fun b m => .inl (sub5 b m)⟩) h6
                have e : b = a := by simpa using z
                rw [e]; exact ma
              · rw [if_neg c] at q2; exact q2.elim
        | non => exact q2.elim
        | bl i => exact q2.elim
        | str x => exact q2.elim
        | tup x => exact q2.elim
        | lst x => exact q2.elim
        | own x => exact q2.elim
theorem setI_imp {tpos : Pos} (h : tS X.K X.mg Eh [] (sSetI j f g) E s H) : tAsg (tP X.K X.mg Eh f) (gSub (tV X.K j) (tP X.K X.mg Eh g) rSetL) E s H := by
  obtain ⟨w, F, hold, q⟩ := h
  refine tP_runS hold (Stp.refl fun _ m => m) q fun d w1 v H1 F1 e st h1 q1 => ?_
  cases e0 : slot w1 j with
  | none => rw [e0] at q1; exact q1.elim
  | some d0 =>
    rw [e0] at q1
    refine tV_run h1 e0 fun v0 f0 ej r0 _ => ?_
    refine tP_runS h1 st q1 fun i w2 vi H2 F2 e st h2 q2 => ?_
    cases e1 : (slot w2 j).bind ownD with
    | none => rw [e1] at q2; exact q2.elim
    | some xs =>
      rw [e1] at q2
      cases i with
      | int n =>
        dsimp only at q2
        cases e2 : ixN xs.length n with
        | none => rw [e2] at q2; exact q2.elim
        | some k =>
          rw [e2] at q2
          obtain ⟨fd, fi, rd, ri, _, _⟩ := Hold.two h2
          -- the index is let go
          have h2b : Hold X.K H2 w2 s [d] [v] F2 := by
            obtain ⟨ft, fe, k1, k2, p, nd⟩ := h2
            obtain ⟨v', r, f, g, e1, q, q2, e2⟩ := k1
            injection e1 with e3 e4
            subst e3; subst e4; subst e2
            have := q2.one'.2
            subst this
            rw [List.append_nil] at p
            exact ⟨f, fe, RVs.one q, k2, p, nd⟩
          obtain ⟨v', ej', h3⟩ := Hold.takeS (ds := [d]) (vs := [v]) h2b (slotOwn e1)
          rw [ej] at ej'
          cases ej'
          obtain ⟨a, us0, eja, _⟩ := own_at h2b (slotOwn e1)
          rw [ej] at eja
          cases eja
          obtain ⟨us, hu, hl, _, _, wrt⟩ := Hold.wr (xs' := xs) (us' := us0) h3
          obtain ⟨F4, h4, sub, st4⟩ := wrt (xs.set k d) (us.set k v) fun H' kk ft f r1 r2 => RVs.setD r2 r1.one' (ixN_lt e2)
          refine ⟨a, us, n, k, rfl, ri.1, hu, by rw [← hl]; exact e2, ?_⟩
          obtain ⟨F5, h5, sub5⟩ := Hold.putS h4 ej
          rw [List.set_set] at h5
          exact q2 s _ F5 ((st.trans st4).trans (Stp.refl sub5)) (.refl _ _) h5
      | non => exact q2.elim
      | bl i => exact q2.elim
      | str x => exact q2.elim
      | tup x => exact q2.elim
      | lst x => exact q2.elim
      | own x => exact q2.elim
theorem ss_setI {i : Expr} {pos tpos : Pos} (he : PE X e (tP X.K X.mg Eh f)) (ho : PE X o (tV X.K j)) (hi : PE X i (tP X.K X.mg Eh g))
    (ha : ∀ v, assign (.Subscript o i tpos) X.env v = (do
      let ov ← holding [v] (eval o X.env)
      let iv ← holding [v, ov] (eval i X.env)
      standAt tpos
      holding [v, ov, iv] (setItem ov iv v)
      release [v, ov, iv] []) := by intro _; rfl)
    (hs : swapsWithSole [.Subscript o i tpos] e pos.line X.env = pure false := by rfl) (hw : swappedStores [.Subscript o i tpos] e X.env = pure none := by rfl)
    (h1 : (assignEach [.Subscript o i tpos] X.env).map (·.2) = [assign (.Subscript o i tpos) X.env] := by rfl) : PS X (.Assign [.Subscript o i tpos] e pos) (tS X.K X.mg Eh [] (sSetI j f g)) :=
  (ps_asg he (pg_sub ho hi set_list ha) hs hw h1).imp fun E s H h => setI_imp (tpos := tpos) h
end
end Pm

set_option autoImplicit true
/-! More rules of the hand layer: what is walked whether it is a list or a tuple; enumerate over a tuple. -/
namespace Pm
open PySem PySem.Spec PyProof.Rows L2
section
variable {X : Cx} {tg : Expr}
def iSeq (K : PySem.W.Frag) (tl : TE) : TI := fun s H R => tl s H fun x H1 => ∃ a, x = .ref a ∧ (((∃ xs, SqL K H1 a xs) ∧ R (Itl K a) H1) ∨ ((∃ xs, SqT K H1 a xs) ∧ R (Itt K a) H1))
theorem pi_seq {l : Expr} {tl : TE} (hl : PE X l tl) : PI X tg l (iSeq X.K tl) := by
  refine ⟨fun pins s σ H R I h => ?_⟩
  refine thn (hl.run pins s σ H _ I h) fun v s1 ⟨x, H1, I1, r1, q1⟩ => ?_
  obtain ⟨a, e, q⟩ := q1
  subst e
  cases r1
  rcases q with ⟨⟨xs, hq⟩, q⟩ | ⟨⟨xs, hq⟩, q⟩
  · obtain ⟨its, rv, p, hz⟩ := I1.list hq
    refine wpAny_pyIter_list p.isList ?_
    refine ⟨s1.heap.objs.size, [s1.heap.objs.size], _, _, H1, rfl, I1.kept (t' := s1.toks) fun b o e => Heap.get?_push_of_some _ e, turn_list a _, ⟨_, Heap.get?_push_size _ rfl, rfl, rfl⟩, fun b hb => ?_, q⟩
    have e : b = s1.heap.objs.size := by simpa using hb
    subst e
    exact I1.fpOk (Nat.le_refl _) (I1.hok.fresh (Nat.le_refl _))
  · obtain ⟨its, rv, p, hz⟩ := I1.tuple hq
    refine wpAny_pyIter_tuple (show s1.heap.IsTuple a its.toArray from p) ?_
    refine ⟨s1.heap.objs.size, [s1.heap.objs.size], _, _, H1, rfl, I1.kept (t' := s1.toks) fun b o e => Heap.get?_push_of_some _ e, turn_tuple a _, ⟨_, Heap.get?_push_size _ rfl, rfl, rfl⟩, fun b hb => ?_, q⟩
    have e : b = s1.heap.objs.size := by simpa using hb
    subst e
    exact I1.fpOk (Nat.le_refl _) (I1.hok.fresh (Nat.le_refl _))
end

/-! ### enumerate of a tuple -/
theorem meets_enumerate_newT (l : Addr) (items : Array Value) (n : Nat) (dct : Option Addr) (sl : Array (Option Value)) :
    Meets (Builtin.«enumerate.__new__» ⟨[.type "enumerate", .ref l], []⟩) (fun _ R s => s.heap.get? l = some { cls := .type "tuple", dict := dct, data := .seq items n, slots := sl } ∧
      R (.ok (.ret (.ref (s.heap.push { cls := .type "tuple_iterator", data := .fields #[.ref l, .int 0 0] }).objs.size)))
        { s with heap := (s.heap.push { cls := .type "tuple_iterator", data := .fields #[.ref l, .int 0 0] }).push { cls := .type "enumerate", data := .fields #[.none, .bool false, .ref s.heap.objs.size, rawInt 0, .none, .none] } }) :=
  .of_wp fun prog w A R s h => by
    obtain ⟨hp, g, d, tk, os⟩ := s; obtain ⟨hl, h⟩ := h
    have hsub := sub_enumerate
    have hL : Heap.IsTuple (Shared.heap ⟨hp, g, d, tk, os⟩) l items := ⟨_, hl, rfl, n, rfl⟩
    wp_walk using AutoSeq1.wpAny_loadPart' hl
    refine wpAny_stack_any fun st => wpAny_pure ?_
    split
    · rename_i c _ _ _ _ _
      cases (c == Value.type "enumerate")
      · wp_walk using AutoSeq1.wpAny_loadPart' hl, wpAny_pyIter_tuple hL
        exact ⟨_, rfl, h⟩
      · wp_walk using AutoSeq1.wpAny_loadPart' hl, wpAny_pyIter_tuple hL
        exact ⟨_, rfl, h⟩
    · wp_walk using AutoSeq1.wpAny_loadPart' hl, wpAny_pyIter_tuple hL
      exact ⟨_, rfl, h⟩
theorem call_enumerate_tuple {prog : Program} {w : World} {A : Around} {E : Value → Shared → Prop} {s : Shared} {l : Addr} {items : Array Value} {Q : Value → Shared → Prop} (hL : s.heap.IsTuple l items)
    (h : ∀ h', IsEnum h' (s.heap.objs.size + 1) s.heap.objs.size 0 .none → h'.IsTupleIter s.heap.objs.size l 0 → h'.objs.size = s.heap.objs.size + 2 →
      (∀ b o, s.heap.get? b = some o → h'.get? b = some o) → Q (.ref (s.heap.objs.size + 1)) { s with heap := h' }) :
    wpAny (model prog w) A (call (.type "enumerate") [.ref l]) Q E s := by
  obtain ⟨⟨c, dct, dt, sl⟩, hl, hc, n, hd⟩ := hL
  replace hc : c = .type "tuple" := hc
  replace hd : dt = .seq items n := hd
  subst hc hd
  refine callType_new F.called_enumerate (by decide) (F.typeCall_enumerate_1 _) (F.newCall_enumerate_1 _) (fun obj => F.args_object_init_2 obj _) F.entry_enumerate_new
    (meets_enumerate_newT l items n dct sl) ⟨hl, ?_⟩
  have hz : (s.heap.push { cls := .type "tuple_iterator", data := .fields #[.ref l, .int 0 0] }).objs.size = s.heap.objs.size + 1 := Heap.size_push ..
  show _ ∧ _
  rw [hz]
  have he : IsEnum ((s.heap.push { cls := .type "tuple_iterator", data := .fields #[.ref l, .int 0 0] }).push
      { cls := .type "enumerate", data := .fields #[.none, .bool false, .ref s.heap.objs.size, rawInt 0, .none, .none] }) (s.heap.objs.size + 1) s.heap.objs.size 0 .none := by
    have := Heap.get?_push_size (s.heap.push { cls := .type "tuple_iterator", data := .fields #[.ref l, .int 0 0] })
      (o := { cls := .type "enumerate", data := .fields #[.none, .bool false, .ref s.heap.objs.size, rawInt 0, .none, .none] }) rfl
    rw [hz] at this; exact this
  refine ⟨⟨_, he, rfl⟩, h _ he ⟨_, Heap.get?_push_of_some _ (Heap.get?_push_size _ rfl), rfl, rfl⟩ (by rw [Heap.size_push, hz]) fun b o x => Heap.get?_push_of_some _ (Heap.get?_push_of_some _ x)⟩
def IteT (K : PySem.W.Frag) (a : Addr) : It :=
  ⟨fun i H => ∃ (xs : List V) (x : V), SqT K H a xs ∧ xs[i]? = some x, fun i H v H' => ∃ T x, v = .ref T ∧ H T = none ∧ H' = upd H T (.tup [.int (i : Nat), x]) ∧ ∀ xs, SqT K H a xs → xs[i]? = some x, fun i H => ∃ xs : List V, SqT K H a xs ∧ xs.length = i⟩
theorem enum_apart {h : Heap} {e it a : Addr} {i : Int} {old : Value} {its : Array Value} (he : IsEnum h e it i old) (p : h.IsTuple a its) : e ≠ a := fun z => by
  subst z
  obtain ⟨o, ho, _, n, hd⟩ := p
  have q : some o = some _ := ho.symm.trans he
  cases q
  cases hd
theorem titer_apart {h : Heap} {it a b : Addr} {i : Nat} {its : Array Value} (he : h.IsTupleIter it b i) (p : h.IsTuple a its) : a ≠ it := fun z => by
  subst z
  obtain ⟨o, ho, _, n, hd⟩ := p
  obtain ⟨o', ho', _, hd'⟩ := he
  rw [ho] at ho'
  cases ho'
  rw [hd] at hd'
  cases hd'
theorem turn_enumT {P : Program} {w : World} {K : PySem.W.Frag} {elts : List Expr} {kk : Nat} {tpos : Pos} (a e it : Addr) :
    Turn P w K (.Tuple elts kk tpos) (IteT K a) [e, it] e (fun i h => (∃ old, IsEnum h e it ((i : Nat) : Int) old) ∧ h.IsTupleIter it a i ∧ e ≠ it) where
  mem := by simp
  obj := fun i h st b hb => by
    obtain ⟨⟨old, he⟩, ⟨o, ho, hc, hd⟩, _⟩ := st
    have e' : b = e ∨ b = it := by simpa using hb
    rcases e' with z | z
    · rw [z]; exact ⟨_, he, fun v q => nomatch q⟩
    · rw [z]; exact ⟨o, ho, fun v q => by rw [hd] at q; cases q⟩
  keep := fun i h h' st k => let ⟨⟨old, he⟩, hi, hne⟩ := st; ⟨⟨old, k e (by simp) _ he⟩, hi.at fun o q => k it (by simp) o q, hne⟩
  item := by
    intro X hP hw hK hc i pins s σ H E I hf st hg
    subst hP hw hK
    obtain ⟨⟨old, he⟩, hit, hne⟩ := st
    obtain ⟨xs, x, hq, hx⟩ := hg
    obtain ⟨its, rv, p, hz⟩ := I.tuple hq
    obtain ⟨u, hu, ru⟩ := rv.get hx
    have hel : e < s.heap.objs.size := Heap.lt_size he
    have hil : it < s.heap.objs.size := by obtain ⟨_, q, _⟩ := hit; exact Heap.lt_size q
    have pT : s.heap.IsTuple a its.toArray := p
    have hea : e ≠ a := enum_apart he pT
    have hia : a ≠ it := titer_apart hit pT
    have hlt : i < its.toArray.size := by
      have := (List.getElem?_eq_some_iff.mp hu).1
      simpa using this
    refine wpAny_pyNext_enum_itemD (Draws.tuple (A := X.A.in1) (by have := I.ok.hd hc; exact this) it a hia its.toArray) he ⟨hit, pT⟩ hlt hne (by simp [hne, hea]) fun y h' tk hP ho hs' hT hsz hk => ?_
    have hy : y = u := by
      have q : its.toArray[i]? = some y := hP
      have q2 : its.toArray[i]? = some u := by simpa using hu
      rw [q] at q2
      exact Option.some.inj q2
    subst hy
    refine ⟨_, rfl, wpAny_letOwnedTupleGo_enum (s := { s with heap := h', toks := tk + 1 }) ho fun h'' he' sb => ?_⟩
    have hT2 : h''.get? s.heap.objs.size = some { cls := .type "tuple", data := .seq #[.int i tk, y] } := (sb.2 _ (Nat.ne_of_gt hel)).trans hT
    have new : ObjOk X.prog X.w (upd H s.heap.objs.size (.tup [.int (i : Nat), x])) h'' s.heap.objs.size (.tup [.int (i : Nat), x]) :=
      ⟨by show 2 ≤ sizeLine; decide, [.int i tk, y], .cons ⟨_, rfl⟩ (.cons ru .nil), ⟨_, hT2, rfl, _, rfl⟩⟩
    have I1 : Inv X pins σ (upd H s.heap.objs.size (.tup [.int (i : Nat), x])) { s with heap := h'', toks := tk + 1 } :=
      I.turnedNew (ch := [e, it]) (fun b ob hb q => (sb.2 b (fun z => hb (by simp [z]))).trans (hk b ob (fun z => hb (by simp [z])) (fun z => hb (by simp [z])) q)) hf (Nat.le_refl _) new
    refine ⟨.ref s.heap.objs.size, _, I1, rfl, ⟨_, x, rfl, I.hok.fresh (Nat.le_refl _), rfl, fun ys hy => by rw [I.tuple_inj hy hq]; exact hx⟩, ⟨⟨y, ?_⟩, hs'.1.at fun o q => (sb.2 it (Ne.symm hne)).trans q, hne⟩, fun b hb => ?_⟩
    · have e1 : ((i + 1 : Nat) : Int) = (i : Int) + 1 := by omega
      rw [e1]; exact he'
    · have hb' : b < s.heap.objs.size := by
        have e' : b = e ∨ b = it := by simpa using hb
        rcases e' with z | z
        · rw [z]; exact hel
        · rw [z]; exact hil
      rw [upd_ne (Nat.ne_of_lt hb')]
      exact (hf b hb).1
  done := by
    intro X hP hw hK hc i pins s σ H E I hf st hg
    subst hP hw hK
    obtain ⟨⟨old, he⟩, hit, hne⟩ := st
    obtain ⟨xs, hq, hx⟩ := hg
    obtain ⟨its, rv, p, hz⟩ := I.tuple hq
    have pT : s.heap.IsTuple a its.toArray := p
    have hia : a ≠ it := titer_apart hit pT
    obtain ⟨f0, f1, f2, f3, f4, f5⟩ := hf it (by simp)
    have hl := rv.length
    have hn : its.toArray.size = i := by simp; omega
    exact wpAny_pyNext_enum_endD (Draws.tuple (A := X.A.in1) (by have := I.ok.hd hc; exact this) it a hia its.toArray) he (by rw [hn]; exact ⟨hit, pT⟩) fun h' eb => ⟨rfl, I.turned (t' := s.toks) (fun b o hb q => eb b o hb q) f0 f1 f3 f4 f5⟩
  self := fun A i s Q E st h => let ⟨⟨_, he⟩, _⟩ := st; wpAny_pyIter_enum he h
def iEnumA (K : PySem.W.Frag) (ta : TA) : TI := fun s H R => ta s H fun vs H1 => ∃ a xs, vs = [.ref a] ∧ ((SqL K H1 a xs ∧ R (Ite K a) H1) ∨ (SqT K H1 a xs ∧ R (IteT K a) H1))
theorem pi_enumA {X : Cx} {e : Expr} {ta : TA} {p pos tpos : Pos} {elts : List Expr} {kk : Nat} (hg : Gl X "enumerate") (hm : X.mg "enumerate" = none) (ha : PA X [e] ta) (hs : starEach [e] X.env = [(false, eval e X.env)] := by rfl) :
    PI X (.Tuple elts kk tpos) (.Call (.Name "enumerate" p) [e] [] pos) (iEnumA X.K ta) := by
  refine ⟨fun pins s σ H R I h => ?_⟩
  refine Call_ (ld_blt I hg hm boot_enumerate (PyProof.Rows.callWith_type1 (thn (ha.run pos pins s σ H _ I h) fun us s1 ⟨vs, H1, I1, r1, q1⟩ => ?_) hs rfl))
  obtain ⟨a, xs, ex, q⟩ := q1
  subst ex
  cases r1 with
  | cons r rr =>
    cases rr
    cases r
    have fpk : ∀ b ∈ [s1.heap.objs.size + 1, s1.heap.objs.size], FpOk X pins H1 b := fun b hb => by
      have e' : b = s1.heap.objs.size + 1 ∨ b = s1.heap.objs.size := by simpa using hb
      have hle : s1.heap.objs.size ≤ b := by
        rcases e' with z | z
        · rw [z]; exact Nat.le_add_right _ _
        · rw [z]; exact Nat.le_refl _
      exact I1.fpOk hle (I1.hok.fresh hle)
    rcases q with ⟨hq, q⟩ | ⟨hq, q⟩
    · obtain ⟨its, rv, p', hz⟩ := I1.list hq
      refine call_enumerate_list p'.isList fun h' he hit hsz hk => wpAny_pyIter_enum he ?_
      have I2 : Inv X pins σ H1 { s1 with heap := h' } := I1.kept (t' := s1.toks) hk
      exact ⟨s1.heap.objs.size + 1, [s1.heap.objs.size + 1, s1.heap.objs.size], _, _, H1, rfl, I2, turn_enum a (s1.heap.objs.size + 1) s1.heap.objs.size, ⟨⟨.none, he⟩, hit, Nat.succ_ne_self _⟩, fpk, q⟩
    · obtain ⟨its, rv, p', hz⟩ := I1.tuple hq
      refine call_enumerate_tuple (show s1.heap.IsTuple a its.toArray from p') fun h' he hit hsz hk => wpAny_pyIter_enum he ?_
      have I2 : Inv X pins σ H1 { s1 with heap := h' } := I1.kept (t' := s1.toks) hk
      exact ⟨s1.heap.objs.size + 1, [s1.heap.objs.size + 1, s1.heap.objs.size], _, _, H1, rfl, I2, turn_enumT a (s1.heap.objs.size + 1) s1.heap.objs.size, ⟨⟨.none, he⟩, hit, Nat.succ_ne_self _⟩, fpk, q⟩
end Pm

set_option autoImplicit true
namespace Pm
open PySem PySem.Spec L2

/-! ### targets -/
inductive Tgt where
  | nm (i : Nat) | tp (is : List Nat)
def setA : List Nat → List D → Ev → Option Ev
  | [], [], w => some w
  | i :: is, d :: ds, w => (setE w i d).bind (setA is ds)
  | _, _, _ => none
def setT : Tgt → D → Ev → Option Ev
  | .nm i, d, w => setE w i d
  | .tp is, .tup xs, w => setA is xs w
  | .tp _, _, _ => none
def wrT : Tgt → List Nat
  | .nm i => [i]
  | .tp is => is
/-- a target's reading, for data that own nothing -/
def TgR (K : PySem.W.Frag) (g : TG) (tg : Tgt) : Prop := ∀ (v : V) (s : L2.St) (H : Hp) (Q : L2.St → Hp → Prop) (w w1 : Ev) (F : List Addr) (ds : List D) (vs : List V) (d : D),
  RV K H d v [] → pl d = true → Hold K H w s ds vs F → setT tg d w = some w1 → (∀ s' F', Agr (wrT tg) s s' → (∀ a ∈ F', a ∈ F) → Hold K H w1 s' ds vs F' → Q s' H) → g v s H Q
theorem Hold.addP {K : PySem.W.Frag} {H : Hp} {w : Ev} {s : L2.St} {ds : List D} {vs : List V} {F : List Addr} {d : D} {v : V} (h : Hold K H w s ds vs F) (r : RV K H d v []) : Hold K H w s (d :: ds) (v :: vs) F := by
  obtain ⟨ft, fe, h1, h2, p, nd⟩ := h
  exact ⟨ft, fe, ⟨v, vs, [], ft, rfl, r, h1, rfl⟩, h2, p, nd⟩
theorem tgr_name {K : PySem.W.Frag} (i : Nat) : TgR K (gName i) (.nm i) := fun v s H Q w w1 F ds vs d r p h e c => by
  change setE w i d = some w1 at e
  unfold setE at e
  by_cases hi : i < w.length
  · rw [if_pos hi] at e
    cases e
    obtain ⟨F', h', sub⟩ := (h.addP r).put hi
    exact c _ F' (.set List.mem_cons_self) sub h'
  · rw [if_neg hi] at e; cases e
def TgsR (K : PySem.W.Frag) (g : TGs) (is : List Nat) : Prop := ∀ (us : List V) (s : L2.St) (H : Hp) (Q : L2.St → Hp → Prop) (w w1 : Ev) (F : List Addr) (ds : List D) (vs : List V) (xs : List D),
  RVs K H xs us [] → pls xs = true → Hold K H w s ds vs F → setA is xs w = some w1 → (∀ s' F', Agr is s s' → (∀ a ∈ F', a ∈ F) → Hold K H w1 s' ds vs F' → Q s' H) → g us s H Q
theorem tgs_nil {K : PySem.W.Frag} : TgsR K gNil [] := fun us s H Q w w1 F ds vs xs r p h e c => by
  cases xs with
  | cons x xs => cases e
  | nil =>
    cases e
    exact ⟨r.1, c s F (.refl _ _) (fun _ m => m) h⟩
theorem tgs_cons {K : PySem.W.Frag} {i : Nat} {is : List Nat} {g : TGs} (hg : TgsR K g is) : TgsR K (gCons (gName i) g) (i :: is) := fun us s H Q w w1 F ds vs xs r p h e c => by
  cases xs with
  | nil => cases e
  | cons x xs =>
    obtain ⟨w0, e1, e2⟩ := Option.bind_eq_some_iff.mp (show (setE w i x).bind (setA is xs) = some w1 from e)
    obtain ⟨u, t, f, f2, e3, r1, r2, e4⟩ := r
    have e5 : f = [] := List.append_eq_nil_iff.mp e4.symm |>.1
    have e6 : f2 = [] := List.append_eq_nil_iff.mp e4.symm |>.2
    subst e5; subst e6
    have pp : pl x = true ∧ pls xs = true := by
      unfold pls at p
      rw [Bool.and_eq_true] at p
      exact p
    refine ⟨u, t, e3, tgr_name i u s H _ w w0 F ds vs x r1 pp.1 h e1 fun s' F' ag sub h' => ?_⟩
    refine hg t s' H _ w0 w1 F' ds vs xs r2 pp.2 h' e2 fun s2 F2 ag2 sub2 h2 => ?_
    exact c s2 F2 ((ag.mono fun k m => by
      have : k = i := by simpa [wrT] using m
      rw [this]; exact List.mem_cons_self).trans (ag2.mono fun k m => List.mem_cons_of_mem _ m)) (fun a m => sub a (sub2 a m)) h2
theorem setA_len : ∀ {is : List Nat} {xs : List D} {w w1 : Ev}, setA is xs w = some w1 → xs.length = is.length
  | [], [], _, _, _ => rfl
  | [], _ :: _, _, _, h => by cases h
  | _ :: _, [], _, _, h => by cases h
  | i :: is, x :: xs, w, w1, h => by
    obtain ⟨w0, e1, e2⟩ := Option.bind_eq_some_iff.mp (show (setE w i x).bind (setA is xs) = some w1 from h)
    rw [List.length_cons, List.length_cons, setA_len e2]
theorem tgr_tup {K : PySem.W.Frag} {is : List Nat} {g : TGs} {n : Nat} (hg : TgsR K g is) (hn : is.length = n := by rfl) : TgR K (gTup K n g) (.tp is) := fun v s H Q w w1 F ds vs d r p h e c => by
  cases d with
  | tup xs =>
    obtain ⟨a, us, e1, q, r1⟩ := r
    have e2 := setA_len (show setA is xs w = some w1 from e)
    exact ⟨a, us, e1, q, by rw [← r1.length, e2, hn], hg us s H Q w w1 F ds vs xs r1 p h e c⟩
  | non => cases e
  | bl i => cases e
  | int i => cases e
  | str x => cases e
  | lst x => cases e
  | own x => cases e

/-! ### what is walked -/
/-- the walk J goes over the items, as long as what it walks (tds at tvs) stands -/
structure Src (K : PySem.W.Frag) (J : It) (items tds : List D) (tvs : List V) : Prop where
  pl : ∀ (i : Nat) d, items[i]? = some d → pl d = true
  go : ∀ H f i, RVs K H tds tvs f → i < items.length → J.go i H
  stop : ∀ H f, RVs K H tds tvs f → J.stop items.length H
  yld : ∀ H f i d x H', RVs K H tds tvs f → items[i]? = some d → J.yld i H x H' → Kp [] H H' ∧ RV K H' d x []
/-- the links of what is walked to slots -/
def Lnk (s : L2.St) (ks : List (Option Nat)) (vs : List V) : Prop := ∀ (k j : Nat) (v : V), ks[k]? = some (some j) → vs[k]? = some v → s[j]? = some (some v)
def tI (K : PySem.W.Frag) (mg : Str → Option Value) (Eh : WX) (ks : List (Option Nat)) (f : PM (List D × List D)) : TI := fun s H R => ∃ w F, Hold K H w s [] [] F ∧ Po K mg Eh H F s (f w) fun p w' =>
  ∀ J H' F' tvs, Stp F H F' H' → Hold K H' w' s p.2 tvs F' → Src K J p.1 p.2 tvs → Lnk s ks tvs → R J H'
/-- an argument that is walked: a slot's datum, taken if it is owned and put back behind -/
def xK (j : Nat) : PM D := fun w => match slot w j with
  | some d => if pl d = true then .ok d w else .ok d (w.set j none)
  | none => .bad
/-- arguments with links -/
def tAL (K : PySem.W.Frag) (mg : Str → Option Value) (Eh : WX) (ks : List (Option Nat)) (f : PM (List D)) : TA := fun s H Q => ∃ w F, Hold K H w s [] [] F ∧ Po K mg Eh H F s (f w) fun ds w' =>
  ∀ vs H' F', Stp F H F' H' → Hold K H' w' s ds vs F' → Lnk s ks vs → Q vs H'
/-- what walks over one value, by items -/
def putB : List (Option Nat) → List D → Ev → Ev
  | some j :: ks, d :: ds, w => putB ks ds (w.set j (some d))
  | none :: ks, _ :: ds, w => putB ks ds w
  | _, _, w => w
section
variable {X : Cx} {Eh : WX} {s : L2.St} {H H1 : Hp} {F F1 : List Addr} {β : Type}
theorem tAL_run {ks : List (Option Nat)} {f : PM (List D)} {k : List D → Ev → Rs β} {Q' : β → Ev → Prop} {R : List V → Hp → Prop} {w1 : Ev} {ds : List D} {vs : List V}
    (hold : Hold X.K H1 w1 s ds vs F1) (st : Stp F H F1 H1) (h : Po X.K X.mg Eh H F s ((f w1).bind k) Q')
    (c : ∀ es w2 us H2 F2, f w1 = .ok es w2 → Stp F H F2 H2 → Hold X.K H2 w2 s (ds ++ es) (vs ++ us) F2 → Lnk s ks us → Po X.K X.mg Eh H F s (k es w2) Q' → R us H2) : tAL X.K X.mg Eh ks f s H1 R := by
  obtain ⟨F0, h0, sub, fr⟩ := hold.frame
  refine ⟨w1, F0, h0, ?_⟩
  cases e : f w1 with
  | ok d w2 =>
    rw [e] at h
    intro v H' F' st' h' l
    obtain ⟨F2, h2, st2⟩ := fr st' h'
    exact c d w2 v H' F2 e (st.trans st2) h2 l h
  | ex cc fs w2 =>
    rw [e] at h
    intro cls od H' F' st' h' x
    exact h cls od H' F' (st.trans (st'.mono sub)) h' x
  | bad => rw [e] at h; exact h
theorem pal0 : PA X [] (tAL X.K X.mg Eh [] xNil) := pa_nil.imp fun s H Q ⟨w, F, hold, q⟩ => q [] H F (Stp.refl fun _ m => m) hold fun k j v e _ => by simp at e
theorem lnk_cons {ks : List (Option Nat)} {o : Option Nat} {v : V} {vs : List V} (h : ∀ j, o = some j → s[j]? = some (some v)) (l : Lnk s ks vs) : Lnk s (o :: ks) (v :: vs) := fun k j u e e2 => by
  cases k with
  | zero =>
    have a : o = some j := by simpa using e
    have b : v = u := by simpa using e2
    rw [← b]
    exact h j a
  | succ k => exact l k j u (by simpa using e) (by simpa using e2)
theorem pal1 {e : Expr} {es : List Expr} {ks : List (Option Nat)} {f : PM D} {g : PM (List D)} (h : PE X e (tP X.K X.mg Eh f)) (hr : PA X es (tAL X.K X.mg Eh ks g)) (hs : starEach (e :: es) X.env = (false, eval e X.env) :: starEach es X.env := by rfl) : PA X (e :: es) (tAL X.K X.mg Eh (none :: ks) (xCons f g)) :=
  (pa_cons h hr hs).imp fun s H Q ⟨w, F, hold, q⟩ => by
    refine tP_run hold (Stp.refl fun _ m => m) q fun d w2 v H2 F2 e st h2 q2 => ?_
    refine tAL_run h2 st q2 fun ds w3 vs H3 F3 e' st' h3 l q3 => ?_
    exact q3 (v :: vs) H3 F3 st' h3 (lnk_cons (fun j z => nomatch z) l)
theorem xK_run {j : Nat} {k : D → Ev → Rs β} {Q' : β → Ev → Prop} {R : VK} {w : Ev} (hold : Hold X.K H w s [] [] F) (q : Po X.K X.mg Eh H F s ((xK j w).bind k) Q')
    (c : ∀ d w2 v F2, (∀ a ∈ F2, a ∈ F) → s[j]? = some (some v) → Hold X.K H w2 s [d] [v] F2 → Po X.K X.mg Eh H F s (k d w2) Q' → R v H) : ∃ v, s[j]? = some (some v) ∧ R v H := by
  cases e : slot w j with
  | none => rw [show xK j w = .bad by unfold xK; rw [e]] at q; exact q.elim
  | some d =>
    obtain ⟨v, ej, h2⟩ := hold.takeS e
    by_cases p : pl d = true
    · rw [show xK j w = .ok d w by unfold xK; rw [e]; exact if_pos p] at q
      obtain ⟨v', f, ej', r, m⟩ := hold.atSlot e
      rw [ej] at ej'
      cases ej'
      exact ⟨v, ej, c d w v F (fun _ m => m) ej (hold.addP (r.nil_of p)) q⟩
    · rw [show xK j w = .ok d (w.set j none) by unfold xK; rw [e]; exact if_neg p] at q
      exact ⟨v, ej, c d _ v F (fun _ m => m) ej h2 q⟩
theorem palk {e : Expr} {es : List Expr} {ks : List (Option Nat)} {j : Nat} {g : PM (List D)} (h : PE X e (tVar j)) (hr : PA X es (tAL X.K X.mg Eh ks g)) (hs : starEach (e :: es) X.env = (false, eval e X.env) :: starEach es X.env := by rfl) : PA X (e :: es) (tAL X.K X.mg Eh (some j :: ks) (xCons (xK j) g)) :=
  (pa_cons h hr hs).imp fun s H Q ⟨w, F, hold, q⟩ => by
    refine xK_run (R := fun x H1 => tAL X.K X.mg Eh ks g s H1 fun xs H2 => Q (x :: xs) H2) hold q fun d w2 v F2 sub ej h2 q2 => ?_
    refine tAL_run h2 (Stp.refl sub) q2 fun ds w3 vs H3 F3 e' st' h3 l q3 => ?_
    exact q3 (v :: vs) H3 F3 st' h3 (lnk_cons (fun i z => by cases z; exact ej) l)
theorem Hold.putL {K : PySem.W.Frag} : ∀ {ks : List (Option Nat)} {ds : List D} {vs : List V} {w : Ev} {F : List Addr}, Hold K H w s ds vs F → Lnk s ks vs → ∃ F', Hold K H (putB ks ds w) s [] [] F' ∧ ∀ a ∈ F', a ∈ F
  | [], ds, vs, w, F, h, l => by
    have e : putB [] ds w = w := by unfold putB; rfl
    rw [e]
    exact h.drop0
  | o :: ks, [], vs, w, F, h, l => by
    have e : putB (o :: ks) [] w = w := by cases o <;> (unfold putB; rfl)
    rw [e]
    exact h.drop0
  | o :: ks, d :: ds, vs, w, F, h, l => by
    cases vs with
    | nil =>
      have := hold_len h
      cases this
    | cons v vs =>
      have l2 : Lnk s ks vs := fun k j u e e2 => l (k + 1) j u (by simpa using e) (by simpa using e2)
      cases o with
      | none =>
        obtain ⟨F1, h1, s1⟩ := Hold.drop (ds := [d]) (vs := [v]) h rfl
        obtain ⟨F2, h2, s2⟩ := Hold.putL (ks := ks) h1 l2
        exact ⟨F2, h2, fun a m => s1 a (s2 a m)⟩
      | some j =>
        obtain ⟨F1, h1, s1⟩ := h.putS (l 0 j v rfl rfl)
        obtain ⟨F2, h2, s2⟩ := Hold.putL (ks := ks) h1 l2
        exact ⟨F2, h2, fun a m => s1 a (s2 a m)⟩
end

/-! ### sources -/
def rngD (n : Nat) : List D := (List.range n).map fun (i : Nat) => D.int (i : Int)
def rngD2 (lo : Int) (n : Nat) : List D := (List.range n).map fun (i : Nat) => D.int (lo + (i : Int))
def enumD (xs : List D) : List D := xs.zipIdx.map fun p => .tup [.int (p.2 : Nat), p.1]
def zipD (xs ys : List D) : List D := (xs.zip ys).map fun p => .tup [p.1, p.2]
/-- from the arguments' data: the items, and what stands behind them -/
def iW (k : List D → Option (List D × List D)) (f : PM (List D)) : PM (List D × List D) := fun w => (f w).bind fun ds w1 => match k ds with
  | some p => .ok p w1
  | none => .bad
def rngC (j : Int) : Bool := decide (-(2 ^ 62) ≤ j ∧ j < 2 ^ 62)
def seqP (d : D) : Option (List D) := (seqD d).bind fun xs => if pls xs = true then some xs else none
def qG : List D → Option (List D × List D)
  | [d] => (seqP d).map fun xs => (xs, [d])
  | _ => none
def qR1 : List D → Option (List D × List D)
  | [.int n] => if rngC n = true then some (rngD n.toNat, []) else none
  | _ => none
def qR2 : List D → Option (List D × List D)
  | [.int lo, .int hi] => if rngC lo = true ∧ rngC hi = true then some (rngD2 lo (hi - lo).toNat, []) else none
  | _ => none
def qEn : List D → Option (List D × List D)
  | [d] => (seqP d).map fun xs => (enumD xs, [d])
  | _ => none
def sameK : D → D → Bool
  | .tup _, .tup _ => true
  | .tup _, _ => false
  | _, .tup _ => false
  | _, _ => true
def qZp : List D → Option (List D × List D)
  | [d, e] => if sameK d e = true then (seqP d).bind fun xs => (seqP e).map fun ys => (zipD xs ys, [d, e]) else none
  | _ => none
theorem seqP_some {d : D} {xs : List D} (h : seqP d = some xs) : seqD d = some xs ∧ pls xs = true := by
  obtain ⟨ys, h1, h2⟩ := Option.bind_eq_some_iff.mp h
  by_cases c : pls ys = true
  · rw [if_pos c] at h2; cases h2; exact ⟨h1, c⟩
  · rw [if_neg c] at h2; cases h2
theorem qG_some {ds : List D} {p : List D × List D} (h : qG ds = some p) : ∃ d xs, ds = [d] ∧ seqD d = some xs ∧ pls xs = true ∧ p = (xs, [d]) := by
  unfold qG at h
  split at h
  · obtain ⟨xs, h1, h2⟩ := Option.map_eq_some_iff.mp h
    exact ⟨_, xs, rfl, (seqP_some h1).1, (seqP_some h1).2, h2.symm⟩
  · cases h
theorem qR1_some {ds : List D} {p : List D × List D} (h : qR1 ds = some p) : ∃ n, ds = [.int n] ∧ rngC n = true ∧ p = (rngD n.toNat, []) := by
  unfold qR1 at h
  split at h
  · split at h
    · rename_i c; cases h; exact ⟨_, rfl, c, rfl⟩
    · cases h
  · cases h
theorem qR2_some {ds : List D} {p : List D × List D} (h : qR2 ds = some p) : ∃ lo hi, ds = [.int lo, .int hi] ∧ rngC lo = true ∧ rngC hi = true ∧ p = (rngD2 lo (hi - lo).toNat, []) := by
  unfold qR2 at h
  split at h
  · split at h
    · rename_i c; cases h; exact ⟨_, _, rfl, c.1, c.2, rfl⟩
    · cases h
  · cases h
theorem qEn_some {ds : List D} {p : List D × List D} (h : qEn ds = some p) : ∃ d xs, ds = [d] ∧ seqD d = some xs ∧ pls xs = true ∧ p = (enumD xs, [d]) := by
  unfold qEn at h
  split at h
  · obtain ⟨xs, h1, h2⟩ := Option.map_eq_some_iff.mp h
    exact ⟨_, xs, rfl, (seqP_some h1).1, (seqP_some h1).2, h2.symm⟩
  · cases h
theorem qZp_some {ds : List D} {p : List D × List D} (h : qZp ds = some p) : ∃ d e xs ys, ds = [d, e] ∧ sameK d e = true ∧ seqD d = some xs ∧ pls xs = true ∧ seqD e = some ys ∧ pls ys = true ∧ p = (zipD xs ys, [d, e]) := by
  unfold qZp at h
  split at h
  · split at h
    · rename_i c
      obtain ⟨xs, h1, h2⟩ := Option.bind_eq_some_iff.mp h
      obtain ⟨ys, h3, h4⟩ := Option.map_eq_some_iff.mp h2
      exact ⟨_, _, xs, ys, rfl, c, (seqP_some h1).1, (seqP_some h1).2, (seqP_some h3).1, (seqP_some h3).2, h4.symm⟩
    · cases h
  · cases h
section
variable {X : Cx} {Eh : WX} {s : L2.St} {H H1 : Hp} {F F1 : List Addr} {tg : Expr} {ks : List (Option Nat)}
theorem src_list {K : PySem.W.Frag} {d : D} {v : V} {xs : List D} {a : Addr} (hp : pls xs = true) (hv : v = .ref a) (hl : ∀ H f, RV K H d v f → ∃ vs g, SqL K H a vs ∧ RVs K H xs vs g) : Src K (Itl K a) xs [d] [v] where
  pl := fun i d e => pls_get hp e
  go := fun H f i r hi => by
    obtain ⟨vs, g, q, rs⟩ := hl H f r.one'
    have : i < vs.length := by rw [← rs.length]; exact hi
    exact ⟨vs, vs[i], q, List.getElem?_eq_getElem this⟩
  stop := fun H f r => by
    obtain ⟨vs, g, q, rs⟩ := hl H f r.one'
    exact ⟨vs, q, by rw [rs.length]; exact Nat.le_refl _⟩
  yld := fun H f i d' x H' r hi y => by
    obtain ⟨vs, g, q, rs⟩ := hl H f r.one'
    obtain ⟨e, y⟩ := y
    subst e
    obtain ⟨u, g2, h1, h2, _⟩ := rs.get hi
    have := y vs q
    rw [h1] at this
    cases this
    exact ⟨fun _ _ e _ => e, h2.nil_of (pls_get hp hi)⟩
theorem src_tup {K : PySem.W.Frag} {d : D} {v : V} {xs : List D} {a : Addr} (hp : pls xs = true) (hv : v = .ref a) (hl : ∀ H f, RV K H d v f → ∃ vs g, SqT K H a vs ∧ RVs K H xs vs g) : Src K (Itt K a) xs [d] [v] where
  pl := fun i d e => pls_get hp e
  go := fun H f i r hi => by
    obtain ⟨vs, g, q, rs⟩ := hl H f r.one'
    have : i < vs.length := by rw [← rs.length]; exact hi
    exact ⟨vs, vs[i], q, List.getElem?_eq_getElem this⟩
  stop := fun H f r => by
    obtain ⟨vs, g, q, rs⟩ := hl H f r.one'
    exact ⟨vs, q, by rw [rs.length]; exact Nat.le_refl _⟩
  yld := fun H f i d' x H' r hi y => by
    obtain ⟨vs, g, q, rs⟩ := hl H f r.one'
    obtain ⟨e, y⟩ := y
    subst e
    obtain ⟨u, g2, h1, h2, _⟩ := rs.get hi
    have := y vs q
    rw [h1] at this
    cases this
    exact ⟨fun _ _ e _ => e, h2.nil_of (pls_get hp hi)⟩
/-- where a value's items stand: a list or a tuple at a, at every heap -/
theorem seq_kind {K : PySem.W.Frag} {d : D} {v : V} {f : List Addr} {xs : List D} (r : RV K H d v f) (e : seqD d = some xs) :
    ∃ a, v = .ref a ∧ ((∀ H f, RV K H d v f → ∃ vs g, SqL K H a vs ∧ RVs K H xs vs g) ∧ (∃ ys, d = .lst ys ∨ d = .own ys) ∨ (∀ H f, RV K H d v f → ∃ vs g, SqT K H a vs ∧ RVs K H xs vs g) ∧ ∃ ys, d = .tup ys) := by
  cases d with
  | tup ys =>
    cases e
    obtain ⟨a, vs, e, q, r⟩ := r
    subst e
    exact ⟨a, rfl, .inr ⟨fun H f r => by obtain ⟨b, us, e, q, r⟩ := r; cases e; exact ⟨us, f, q, r⟩, _, rfl⟩⟩
  | lst ys =>
    cases e
    obtain ⟨a, vs, e, q, r⟩ := r
    subst e
    exact ⟨a, rfl, .inl ⟨fun H f r => by obtain ⟨b, us, e, q, r, _⟩ := r; cases e; exact ⟨us, [], q.sq, r⟩, _, .inl rfl⟩⟩
  | own ys =>
    cases e
    obtain ⟨a, vs, g, e, q, r⟩ := r
    subst e
    exact ⟨a, rfl, .inl ⟨fun H f r => by obtain ⟨b, us, g, e, q, r, _⟩ := r; cases e; exact ⟨us, g, .of q, r⟩, _, .inr rfl⟩⟩
  | non => cases e
  | bl b => cases e
  | int i => cases e
  | str x => cases e
theorem src_nil {K : PySem.W.Frag} {lo : Int} {n : Nat} {items : List D} (hl : items.length = n) (hi : ∀ i d, items[i]? = some d → d = D.int (lo + (i : Nat))) : Src K (Itr lo n) items [] [] where
  pl := fun i d e => by rw [hi i d e]; rfl
  go := fun H f i r h => by show i < n; omega
  stop := fun H f r => by show n ≤ items.length; omega
  yld := fun H f i d x H' r e y => by
    obtain ⟨e1, e2⟩ := y
    subst e1
    have := hi i d e
    subst this
    exact ⟨fun _ _ e _ => e, e2, rfl⟩
theorem rngD_len (n : Nat) : (rngD n).length = n := by unfold rngD; simp
theorem rngD2_len (lo : Int) (n : Nat) : (rngD2 lo n).length = n := by unfold rngD2; simp
theorem rngD_get {n i : Nat} {d : D} (h : (rngD n)[i]? = some d) : d = D.int (0 + (i : Nat)) := by
  unfold rngD at h
  rw [List.getElem?_map] at h
  obtain ⟨k, h1, h2⟩ := Option.map_eq_some_iff.mp h
  have := List.getElem?_eq_some_iff.mp h1
  obtain ⟨h3, h4⟩ := this
  rw [List.getElem_range] at h4
  rw [← h2, ← h4, Int.zero_add]
theorem rngD2_get {lo : Int} {n i : Nat} {d : D} (h : (rngD2 lo n)[i]? = some d) : d = D.int (lo + (i : Nat)) := by
  unfold rngD2 at h
  rw [List.getElem?_map] at h
  obtain ⟨k, h1, h2⟩ := Option.map_eq_some_iff.mp h
  obtain ⟨h3, h4⟩ := List.getElem?_eq_some_iff.mp h1
  rw [List.getElem_range] at h4
  rw [← h2, ← h4]
end
end Pm

set_option autoImplicit true
namespace Pm
open PySem PySem.Spec L2

/-! ### what is walked, as rules -/
theorem _root_.L2.PI.imp {X : Cx} {tg e : Expr} {t t' : TI} (h : PI X tg e t) (i : ∀ s H R, t' s H R → t s H R) : PI X tg e t' := ⟨fun pins s σ H R I q => h.run pins s σ H R I (i _ _ _ q)⟩
theorem hold_kp {K : PySem.W.Frag} {H H' : Hp} {w : Ev} {s : L2.St} {ds : List D} {vs : List V} {F : List Addr} (h : Hold K H w s ds vs F) (k : Kp [] H H') : Hold K H' w s ds vs F := by
  obtain ⟨ft, fe, h1, h2, q, nd⟩ := h
  exact ⟨ft, fe, RVs.kp k (fun _ z => nomatch z) _ _ _ (fun _ _ z => nomatch z) h1, h2.kp k (fun _ z => nomatch z) (fun _ _ z => nomatch z), q, nd⟩
theorem stp_kp {H H' : Hp} {F : List Addr} (k : Kp [] H H') : Stp F H F H' := ⟨fun a o e n => k a o e (fun z => nomatch z), fun a m => .inl m⟩
section
variable {X : Cx} {Eh : WX} {s : L2.St} {H H1 : Hp} {F F1 : List Addr} {tg e e2 : Expr} {f g : PM D} {j : Nat} {p pos tpos : Pos}
theorem seq_end {R : It → Hp → Prop} {w : Ev} {d : D} {v : V} {xs : List D} {ks : List (Option Nat)} (h1 : Hold X.K H1 w s [d] [v] F1) (hs : seqD d = some xs) (hp : pls xs = true)
    (q : ∀ J, Src X.K J xs [d] [v] → R J H1) : ∃ a, v = .ref a ∧ (((∃ ys, SqL X.K H1 a ys) ∧ R (Itl X.K a) H1) ∨ ((∃ ys, SqT X.K H1 a ys) ∧ R (Itt X.K a) H1)) := by
  obtain ⟨f, r, _⟩ := Hold.one h1
  obtain ⟨a, ev, hk⟩ := seq_kind r hs
  refine ⟨a, ev, ?_⟩
  rcases hk with ⟨hk, _⟩ | ⟨hk, _⟩
  · obtain ⟨vs, g, sq, _⟩ := hk H1 f r
    exact .inl ⟨⟨vs, sq⟩, q _ (src_list hp ev hk)⟩
  · obtain ⟨vs, g, sq, _⟩ := hk H1 f r
    exact .inr ⟨⟨vs, sq⟩, q _ (src_tup hp ev hk)⟩
theorem lnk1 {v : V} : Lnk s [none] [v] := fun k j u e e2 => by
  cases k with
  | zero => cases e
  | succ k => cases e
theorem lnkj {v : V} (h : s[j]? = some (some v)) : Lnk s [some j] [v] := fun k i u e e2 => by
  cases k with
  | zero =>
    have a : j = i := by simpa using e
    have b : v = u := by simpa using e2
    rw [← a, ← b]; exact h
  | succ k => cases e
theorem back_iw {R : List D × List D → Ev → Prop} {o : Option (List D × List D)} {w : Ev} (h : Po X.K X.mg Eh H F s (match o with
    | some p => Rs.ok p w
    | none => .bad) R) : ∃ p, o = some p ∧ R p w := by
  cases o with
  | none => exact h.elim
  | some p => exact ⟨p, rfl, h⟩
theorem x1_eq {α : Type} {f : PM D} {w : Ev} {k : List D → Ev → Rs α} : ((xCons f xNil w).bind k) = (f w).bind fun d w1 => k [d] w1 := by
  unfold xCons xNil
  cases f w <;> rfl
theorem it_g (h : PE X e (tP X.K X.mg Eh f)) : PI X tg e (tI X.K X.mg Eh [none] (iW qG (xCons f xNil))) := (pi_seq h).imp fun s H R ⟨w, F, hold, q⟩ => by
  unfold iW at q
  rw [x1_eq] at q
  refine tP_run hold (Stp.refl fun _ m => m) q fun d w2 v H2 F2 e st h2 q2 => ?_
  obtain ⟨p, h1, h3⟩ := back_iw q2
  obtain ⟨d', xs, e1, e2, e3, e4⟩ := qG_some h1
  cases e1
  subst e4
  exact seq_end (ks := [none]) h2 e2 e3 fun J src => h3 J H2 F2 [v] st h2 src lnk1
theorem it_v (h : PE X e (tVar j)) : PI X tg e (tI X.K X.mg Eh [some j] (iW qG (xCons (xK j) xNil))) := (pi_seq h).imp fun s H R ⟨w, F, hold, q⟩ => by
  unfold iW at q
  rw [x1_eq] at q
  refine xK_run (R := fun x H1 => ∃ a, x = .ref a ∧ (((∃ xs, SqL X.K H1 a xs) ∧ R (Itl X.K a) H1) ∨ ((∃ xs, SqT X.K H1 a xs) ∧ R (Itt X.K a) H1))) hold q fun d w2 v F2 sub ej h2 q2 => ?_
  obtain ⟨p, h1, h3⟩ := back_iw q2
  obtain ⟨d', xs, e1, e2, e3, e4⟩ := qG_some h1
  cases e1
  subst e4
  exact seq_end (ks := [some j]) h2 e2 e3 fun J src => h3 J H F2 [v] (Stp.refl sub) h2 src (lnkj ej)
variable {a b : Expr} {fs : PM (List D)} {ks : List (Option Nat)}
theorem lnk0 {ks : List (Option Nat)} : Lnk s ks [] := fun k j u e e2 => by simp at e2
theorem hold1 {K : PySem.W.Frag} {w : Ev} {d : D} {us : List V} (h : Hold K H w s [d] us F) : ∃ v, us = [v] := by
  have := hold_len h
  match us, this with
  | [v], _ => exact ⟨v, rfl⟩
theorem hold2 {K : PySem.W.Frag} {w : Ev} {d d' : D} {us : List V} (h : Hold K H w s [d, d'] us F) : ∃ v v', us = [v, v'] := by
  have := hold_len h
  match us, this with
  | [v, v'], _ => exact ⟨v, v', rfl⟩
theorem it_r1 (hg : Gl X "range") (hm : X.mg "range" = none) (ha : PA X [a] (tAL X.K X.mg Eh ks fs)) (hs : starEach [a] X.env = [(false, eval a X.env)] := by rfl) :
    PI X tg (.Call (.Name "range" p) [a] [] pos) (tI X.K X.mg Eh ks (iW qR1 fs)) := (pi_range1 hg hm ha hs).imp fun s H R ⟨w, F, hold, q⟩ => by
  unfold iW at q
  refine tAL_run hold (Stp.refl fun _ m => m) q fun ds w2 us H2 F2 e st h2 l q2 => ?_
  replace h2 : Hold X.K H2 w2 s ds us F2 := h2
  obtain ⟨p, h1, h3⟩ := back_iw q2
  obtain ⟨n, e1, c, e2⟩ := qR1_some h1
  subst e1; subst e2
  have hc := of_decide_eq_true (p := -(2 ^ 62) ≤ n ∧ n < 2 ^ 62) c
  obtain ⟨F3, h4, sub⟩ := h2.drop0
  obtain ⟨v, ev⟩ := hold1 h2
  subst ev
  obtain ⟨fx, rx, _⟩ := Hold.one h2
  exact ⟨n, by rw [rx.1], hc.1, hc.2, h3 _ H2 F3 [] (st.trans (Stp.refl sub)) h4 (src_nil (rngD_len _) fun i d h => rngD_get h) lnk0⟩
theorem it_r2 (hg : Gl X "range") (hm : X.mg "range" = none) (ha : PA X [a, b] (tAL X.K X.mg Eh ks fs)) (hs : starEach [a, b] X.env = [(false, eval a X.env), (false, eval b X.env)] := by rfl) (hs2 : starEach [b] X.env = [(false, eval b X.env)] := by rfl) :
    PI X tg (.Call (.Name "range" p) [a, b] [] pos) (tI X.K X.mg Eh ks (iW qR2 fs)) := (pi_range2 hg hm ha hs hs2).imp fun s H R ⟨w, F, hold, q⟩ => by
  unfold iW at q
  refine tAL_run hold (Stp.refl fun _ m => m) q fun ds w2 us H2 F2 e st h2 l q2 => ?_
  replace h2 : Hold X.K H2 w2 s ds us F2 := h2
  obtain ⟨p, h1, h3⟩ := back_iw q2
  obtain ⟨lo, hi, e1, c1, c2, e2⟩ := qR2_some h1
  subst e1; subst e2
  have hc := of_decide_eq_true (p := -(2 ^ 62) ≤ lo ∧ lo < 2 ^ 62) c1
  have hc2 := of_decide_eq_true (p := -(2 ^ 62) ≤ hi ∧ hi < 2 ^ 62) c2
  obtain ⟨F3, h4, sub⟩ := h2.drop0
  obtain ⟨v, v', ev⟩ := hold2 h2
  subst ev
  obtain ⟨fx, fy, rx, ry, _⟩ := Hold.two h2
  exact ⟨lo, hi, by rw [rx.1, ry.1], ⟨hc.1, hc.2, hc2.1, hc2.2⟩, h3 _ H2 F3 [] (st.trans (Stp.refl sub)) h4 (src_nil (rngD2_len _ _) fun i d h => rngD2_get h) lnk0⟩
theorem pair_rv {K : PySem.W.Frag} {d d' : D} {x y : V} {T : Addr} (r : RV K H d x []) (r' : RV K H d' y []) (n : H T = none) : Kp [] H (upd H T (.tup [x, y])) ∧ RV K (upd H T (.tup [x, y])) (.tup [d, d']) (.ref T) [] := by
  obtain ⟨k, f, rv, _, fr⟩ := new_tup (K := K) (H := H) (xs := [d, d']) (vs := [x, y]) (p := T) ⟨x, [y], [], [], rfl, r, ⟨y, [], [], [], rfl, r', ⟨rfl, rfl⟩, rfl⟩, rfl⟩ n
  refine ⟨k, ?_⟩
  obtain ⟨a, vs, e, q, rs⟩ := rv
  cases e
  refine ⟨T, [x, y], rfl, .inl (.inl upd_same), ?_⟩
  have r1 := RV.kp k (fun _ z => nomatch z) d x [] (fun _ z => nomatch z) r
  have r2 := RV.kp k (fun _ z => nomatch z) d' y [] (fun _ z => nomatch z) r'
  exact ⟨x, [y], [], [], rfl, r1, ⟨y, [], [], [], rfl, r2, ⟨rfl, rfl⟩, rfl⟩, rfl⟩
theorem enumD_get {xs : List D} {i : Nat} {d : D} (h : (enumD xs)[i]? = some d) : ∃ x, xs[i]? = some x ∧ d = .tup [.int (i : Nat), x] := by
  unfold enumD at h
  rw [List.getElem?_map, List.getElem?_zipIdx] at h
  obtain ⟨q, h1, h2⟩ := Option.map_eq_some_iff.mp h
  obtain ⟨x, h3, h4⟩ := Option.map_eq_some_iff.mp h1
  subst h4
  exact ⟨x, h3, by rw [← h2]; simp⟩
theorem enumD_len (xs : List D) : (enumD xs).length = xs.length := by unfold enumD; simp
theorem zipD_len (xs ys : List D) : (zipD xs ys).length = min xs.length ys.length := by unfold zipD; simp
theorem zipD_get {xs ys : List D} {i : Nat} {d : D} (h : (zipD xs ys)[i]? = some d) : ∃ x y, xs[i]? = some x ∧ ys[i]? = some y ∧ d = .tup [x, y] := by
  unfold zipD at h
  rw [List.getElem?_map] at h
  obtain ⟨q, h1, h2⟩ := Option.map_eq_some_iff.mp h
  rw [List.getElem?_zip_eq_some] at h1
  exact ⟨q.1, q.2, h1.1, h1.2, h2.symm⟩
theorem src_enum {K : PySem.W.Frag} {d : D} {v : V} {xs : List D} {a : Addr} (hp : pls xs = true) (hl : ∀ H f, RV K H d v f → ∃ vs g, SqL K H a vs ∧ RVs K H xs vs g) : Src K (Ite K a) (enumD xs) [d] [v] where
  pl := fun i d e => by
    obtain ⟨x, h1, h2⟩ := enumD_get e
    rw [h2]
    show (true && (pl x && true)) = true
    rw [pls_get hp h1]; rfl
  go := fun H f i r hi => by
    obtain ⟨vs, g, q, rs⟩ := hl H f r.one'
    have : i < vs.length := by rw [← rs.length]; rw [enumD_len] at hi; exact hi
    exact ⟨vs, vs[i], q, List.getElem?_eq_getElem this⟩
  stop := fun H f r => by
    obtain ⟨vs, g, q, rs⟩ := hl H f r.one'
    exact ⟨vs, q, by rw [enumD_len, rs.length]; exact Nat.le_refl _⟩
  yld := fun H f i d' x H' r hi y => by
    obtain ⟨vs, g, q, rs⟩ := hl H f r.one'
    obtain ⟨T, z, e1, e2, e3, e4⟩ := y
    obtain ⟨x0, h1, h2⟩ := enumD_get hi
    obtain ⟨u, g2, h3, h4, _⟩ := rs.get h1
    have := e4 vs q
    rw [h3] at this
    cases this
    subst e1; subst e3; subst h2
    exact pair_rv ⟨rfl, rfl⟩ (h4.nil_of (pls_get hp h1)) e2
theorem src_enumT {K : PySem.W.Frag} {d : D} {v : V} {xs : List D} {a : Addr} (hp : pls xs = true) (hl : ∀ H f, RV K H d v f → ∃ vs g, SqT K H a vs ∧ RVs K H xs vs g) : Src K (IteT K a) (enumD xs) [d] [v] where
  pl := fun i d e => by
    obtain ⟨x, h1, h2⟩ := enumD_get e
    rw [h2]
    show (true && (pl x && true)) = true
    rw [pls_get hp h1]; rfl
  go := fun H f i r hi => by
    obtain ⟨vs, g, q, rs⟩ := hl H f r.one'
    have : i < vs.length := by rw [← rs.length]; rw [enumD_len] at hi; exact hi
    exact ⟨vs, vs[i], q, List.getElem?_eq_getElem this⟩
  stop := fun H f r => by
    obtain ⟨vs, g, q, rs⟩ := hl H f r.one'
    exact ⟨vs, q, by rw [enumD_len, rs.length]⟩
  yld := fun H f i d' x H' r hi y => by
    obtain ⟨vs, g, q, rs⟩ := hl H f r.one'
    obtain ⟨T, z, e1, e2, e3, e4⟩ := y
    obtain ⟨x0, h1, h2⟩ := enumD_get hi
    obtain ⟨u, g2, h3, h4, _⟩ := rs.get h1
    have := e4 vs q
    rw [h3] at this
    cases this
    subst e1; subst e3; subst h2
    exact pair_rv ⟨rfl, rfl⟩ (h4.nil_of (pls_get hp h1)) e2
theorem it_en {elts : List Expr} {kk : Nat} (hg : Gl X "enumerate") (hm : X.mg "enumerate" = none) (ha : PA X [a] (tAL X.K X.mg Eh ks fs)) (hs : starEach [a] X.env = [(false, eval a X.env)] := by rfl) :
    PI X (.Tuple elts kk tpos) (.Call (.Name "enumerate" p) [a] [] pos) (tI X.K X.mg Eh ks (iW qEn fs)) := (pi_enumA hg hm ha hs).imp fun s H R ⟨w, F, hold, q⟩ => by
  unfold iW at q
  refine tAL_run hold (Stp.refl fun _ m => m) q fun ds w2 us H2 F2 e st h2 l q2 => ?_
  replace h2 : Hold X.K H2 w2 s ds us F2 := h2
  obtain ⟨p, h1, h3⟩ := back_iw q2
  obtain ⟨d, xs, e1, e2, e3, e4⟩ := qEn_some h1
  subst e1; subst e4
  obtain ⟨v, ev⟩ := hold1 h2
  subst ev
  obtain ⟨fx, rx, _⟩ := Hold.one h2
  obtain ⟨a, ev, hk⟩ := seq_kind rx e2
  subst ev
  rcases hk with ⟨hk, _⟩ | ⟨hk, _⟩
  · obtain ⟨vs, g, sq, _⟩ := hk H2 fx rx
    exact ⟨a, vs, rfl, .inl ⟨sq, h3 _ H2 F2 _ st h2 (src_enum e3 hk) l⟩⟩
  · obtain ⟨vs, g, sq, _⟩ := hk H2 fx rx
    exact ⟨a, vs, rfl, .inr ⟨sq, h3 _ H2 F2 _ st h2 (src_enumT e3 hk) l⟩⟩
theorem src_zip {K : PySem.W.Frag} {d d' : D} {v v' : V} {xs ys : List D} {a b : Addr} (hp : pls xs = true) (hp' : pls ys = true) (hl : ∀ H f, RV K H d v f → ∃ vs g, SqL K H a vs ∧ RVs K H xs vs g) (hl' : ∀ H f, RV K H d' v' f → ∃ vs g, SqL K H b vs ∧ RVs K H ys vs g) : Src K (Itz K a b) (zipD xs ys) [d, d'] [v, v'] where
  pl := fun i d e => by
    obtain ⟨x, y, h1, h2, h3⟩ := zipD_get e
    rw [h3]
    show (pl x && (pl y && true)) = true
    rw [pls_get hp h1, pls_get hp' h2]; rfl
  go := fun H f i r hi => by
    obtain ⟨_, _, f1, g1, e, r1, r2, _⟩ := r
    cases e
    obtain ⟨vs, g, q, rs⟩ := hl H _ r1
    obtain ⟨vs', g', q', rs'⟩ := hl' H _ r2.one'
    rw [zipD_len] at hi
    have h1 : i < vs.length := by rw [← rs.length]; omega
    have h2 : i < vs'.length := by rw [← rs'.length]; omega
    exact ⟨vs, vs', vs[i], vs'[i], q, q', List.getElem?_eq_getElem h1, List.getElem?_eq_getElem h2⟩
  stop := fun H f r => by
    obtain ⟨_, _, f1, g1, e, r1, r2, _⟩ := r
    cases e
    obtain ⟨vs, g, q, rs⟩ := hl H _ r1
    obtain ⟨vs', g', q', rs'⟩ := hl' H _ r2.one'
    refine ⟨vs, vs', q, q', ?_⟩
    rw [zipD_len, ← rs.length, ← rs'.length]
    omega
  yld := fun H f i d' x H' r hi y => by
    obtain ⟨_, _, f1, g1, e, r1, r2, _⟩ := r
    cases e
    obtain ⟨vs, g, q, rs⟩ := hl H _ r1
    obtain ⟨vs', g', q', rs'⟩ := hl' H _ r2.one'
    obtain ⟨T, z, z', e1, e2, e3, e4, e5⟩ := y
    obtain ⟨x0, y0, h1, h2, h3⟩ := zipD_get hi
    obtain ⟨u, g2, h4, h5, _⟩ := rs.get h1
    obtain ⟨u', g2', h4', h5', _⟩ := rs'.get h2
    have t1 := e4 vs q
    have t2 := e5 vs' q'
    rw [h4] at t1
    rw [h4'] at t2
    cases t1; cases t2
    subst e1; subst e3; subst h3
    exact pair_rv (h5.nil_of (pls_get hp h1)) (h5'.nil_of (pls_get hp' h2)) e2
theorem src_zipT {K : PySem.W.Frag} {d d' : D} {v v' : V} {xs ys : List D} {a b : Addr} (hp : pls xs = true) (hp' : pls ys = true) (hl : ∀ H f, RV K H d v f → ∃ vs g, SqT K H a vs ∧ RVs K H xs vs g) (hl' : ∀ H f, RV K H d' v' f → ∃ vs g, SqT K H b vs ∧ RVs K H ys vs g) : Src K (RZ.ItzT K a b) (zipD xs ys) [d, d'] [v, v'] where
  pl := fun i d e => by
    obtain ⟨x, y, h1, h2, h3⟩ := zipD_get e
    rw [h3]
    show (pl x && (pl y && true)) = true
    rw [pls_get hp h1, pls_get hp' h2]; rfl
  go := fun H f i r hi => by
    obtain ⟨_, _, f1, g1, e, r1, r2, _⟩ := r
    cases e
    obtain ⟨vs, g, q, rs⟩ := hl H _ r1
    obtain ⟨vs', g', q', rs'⟩ := hl' H _ r2.one'
    rw [zipD_len] at hi
    have h1 : i < vs.length := by rw [← rs.length]; omega
    have h2 : i < vs'.length := by rw [← rs'.length]; omega
    exact ⟨vs, vs', vs[i], vs'[i], q, q', List.getElem?_eq_getElem h1, List.getElem?_eq_getElem h2⟩
  stop := fun H f r => by
    obtain ⟨_, _, f1, g1, e, r1, r2, _⟩ := r
    cases e
    obtain ⟨vs, g, q, rs⟩ := hl H _ r1
    obtain ⟨vs', g', q', rs'⟩ := hl' H _ r2.one'
    refine ⟨vs, vs', q, q', ?_⟩
    rw [zipD_len, ← rs.length, ← rs'.length]
    omega
  yld := fun H f i d' x H' r hi y => by
    obtain ⟨_, _, f1, g1, e, r1, r2, _⟩ := r
    cases e
    obtain ⟨vs, g, q, rs⟩ := hl H _ r1
    obtain ⟨vs', g', q', rs'⟩ := hl' H _ r2.one'
    obtain ⟨T, z, z', e1, e2, e3, e4, e5⟩ := y
    obtain ⟨x0, y0, h1, h2, h3⟩ := zipD_get hi
    obtain ⟨u, g2, h4, h5, _⟩ := rs.get h1
    obtain ⟨u', g2', h4', h5', _⟩ := rs'.get h2
    have t1 := e4 vs q
    have t2 := e5 vs' q'
    rw [h4] at t1
    rw [h4'] at t2
    cases t1; cases t2
    subst e1; subst e3; subst h3
    exact pair_rv (h5.nil_of (pls_get hp h1)) (h5'.nil_of (pls_get hp' h2)) e2
theorem it_zp {elts : List Expr} {kk : Nat} (hg : Gl X "zip") (hm : X.mg "zip" = none) (ha : PA X [a, b] (tAL X.K X.mg Eh ks fs)) (hs : starEach [a, b] X.env = (false, eval a X.env) :: starEach [b] X.env := by rfl) (hpl : (backTo pos (starEach [b] X.env)).any (·.1) = false := by rfl) :
    PI X (.Tuple elts kk tpos) (.Call (.Name "zip" p) [a, b] [] pos) (tI X.K X.mg Eh ks (iW qZp fs)) := (RZ.pi_zipA hg hm ha hs hpl).imp fun s H R ⟨w, F, hold, q⟩ => by
  unfold iW at q
  refine tAL_run hold (Stp.refl fun _ m => m) q fun ds w2 us H2 F2 e st h2 l q2 => ?_
  replace h2 : Hold X.K H2 w2 s ds us F2 := h2
  obtain ⟨p, h1, h3⟩ := back_iw q2
  obtain ⟨d, d', xs, ys, e1, c, e2, e3, e4, e5, e6⟩ := qZp_some h1
  subst e1; subst e6
  obtain ⟨v, v', ev⟩ := hold2 h2
  subst ev
  obtain ⟨fx, fy, rx, ry, _⟩ := Hold.two h2
  obtain ⟨a, ev, hk⟩ := seq_kind rx e2
  obtain ⟨b, ev', hk'⟩ := seq_kind ry e4
  subst ev; subst ev'
  rcases hk with ⟨hk, zs, hz⟩ | ⟨hk, zs, hz⟩
  · rcases hk' with ⟨hk', zs', hz'⟩ | ⟨hk', zs', hz'⟩
    · obtain ⟨vs, g, sq, _⟩ := hk H2 fx rx
      obtain ⟨vs', g', sq', _⟩ := hk' H2 fy ry
      exact ⟨a, b, vs, vs', rfl, .inl ⟨sq, sq', h3 _ H2 F2 _ st h2 (src_zip e3 e5 hk hk') l⟩⟩
    · subst hz'
      rcases hz with hz | hz <;> (subst hz; cases c)
  · subst hz
    rcases hk' with ⟨hk', zs', hz'⟩ | ⟨hk', zs', hz'⟩
    · rcases hz' with hz' | hz' <;> (subst hz'; cases c)
    · obtain ⟨vs, g, sq, _⟩ := hk H2 fx rx
      obtain ⟨vs', g', sq', _⟩ := hk' H2 fy ry
      exact ⟨a, b, vs, vs', rfl, .inr ⟨sq, sq', h3 _ H2 F2 _ st h2 (src_zipT e3 e5 hk hk') l⟩⟩
end
end Pm

set_option autoImplicit true
namespace Pm
open PySem PySem.Spec L2

/-! ### for -/
def forL (tg : Tgt) (body : PM Fl) : List D → PM Fl
  | [] => fun w => .ok .nx w
  | d :: ds => fun w => match setT tg d w with
    | some w1 => (body w1).bind fun fl w2 => match fl with
      | .nx => forL tg body ds w2
      | .ct => forL tg body ds w2
      | .bk => .ok .nx w2
      | .rt v => .ok (.rt v) w2
    | none => .bad
theorem forL_nil {tg : Tgt} {body : PM Fl} {w : Ev} : forL tg body [] w = .ok .nx w := rfl
theorem forL_cons {tg : Tgt} {body : PM Fl} {d : D} {ds : List D} {w : Ev} : forL tg body (d :: ds) w = match setT tg d w with
    | some w1 => (body w1).bind fun fl w2 => match fl with
      | .nx => forL tg body ds w2
      | .ct => forL tg body ds w2
      | .bk => .ok .nx w2
      | .rt v => .ok (.rt v) w2
    | none => .bad := rfl
def putR (ks : List (Option Nat)) (tds : List D) (r : Rs Fl) : Rs Fl := match r with
  | .ok fl w => .ok fl (putB ks tds w)
  | .ex c fs w => .ex c fs (putB ks tds w)
  | .bad => .bad
def sFor (ks : List (Option Nat)) (it : PM (List D × List D)) (tg : Tgt) (body : PM Fl) : PM Fl := fun w => (it w).bind fun p w1 => putR ks p.2 (forL tg body p.1 w1)

theorem Hold.putL2 {K : PySem.W.Frag} {H : Hp} {s : L2.St} {es : List D} {us : List V} : ∀ {ks : List (Option Nat)} {ds : List D} {vs : List V} {w : Ev} {F : List Addr}, Hold K H w s (ds ++ es) (vs ++ us) F → ds.length = vs.length → Lnk s ks vs → ∃ F', Hold K H (putB ks ds w) s es us F' ∧ ∀ a ∈ F', a ∈ F
  | [], ds, vs, w, F, h, hl, l => by
    have e : putB [] ds w = w := by unfold putB; rfl
    rw [e]
    exact h.drop hl
  | o :: ks, [], vs, w, F, h, hl, l => by
    have e : putB (o :: ks) [] w = w := by cases o <;> (unfold putB; rfl)
    rw [e]
    exact h.drop hl
  | o :: ks, d :: ds, vs, w, F, h, hl, l => by
    cases vs with
    | nil => cases hl
    | cons v vs =>
      have hl2 : ds.length = vs.length := by simpa using hl
      have l2 : Lnk s ks vs := fun k j u e e2 => l (k + 1) j u (by simpa using e) (by simpa using e2)
      cases o with
      | none =>
        obtain ⟨F1, h1, s1⟩ := Hold.drop (ds := [d]) (vs := [v]) h rfl
        obtain ⟨F2, h2, s2⟩ := Hold.putL2 (ks := ks) h1 hl2 l2
        exact ⟨F2, h2, fun a m => s1 a (s2 a m)⟩
      | some j =>
        obtain ⟨F1, h1, s1⟩ := Hold.putS h (l 0 j v rfl rfl)
        obtain ⟨F2, h2, s2⟩ := Hold.putL2 (ks := ks) h1 hl2 l2
        exact ⟨F2, h2, fun a m => s1 a (s2 a m)⟩
theorem lnk_agr {s s' : L2.St} {ks : List (Option Nat)} {vs : List V} {wr : List Nat} (l : Lnk s ks vs) (ag : Agr wr s s') (h : ∀ j, some j ∈ ks → j ∉ wr) : Lnk s' ks vs := fun k j v e e2 => by
  rw [ag.2 j (h j (List.mem_of_getElem? e))]
  exact l k j v e e2
theorem Hold.rvs {K : PySem.W.Frag} {H : Hp} {w : Ev} {s : L2.St} {ds : List D} {vs : List V} {F : List Addr} (h : Hold K H w s ds vs F) : ∃ f, RVs K H ds vs f := by
  obtain ⟨ft, fe, h1, _⟩ := h
  exact ⟨ft, h1⟩
section
variable {X : Cx} {Eh : WX} {s : L2.St} {H : Hp} {E : Ends}
theorem for_imp {K : PySem.W.Frag} {mg : Str → Option Value} {g : TG} {tg : Tgt} {body : PM Fl} {wrB : List Nat} {ks : List (Option Nat)} {it : PM (List D × List D)} (hg : TgR K g tg) (hj : ∀ j, some j ∈ ks → j ∉ wrT tg ++ wrB)
    (h : tS K mg Eh (wrT tg ++ wrB) (sFor ks it tg body) E s H) : tFor (tI K mg Eh ks it) g (tS K mg Eh wrB body) E s H := by
  obtain ⟨w, F, hold, q⟩ := h
  unfold sFor at q
  refine ⟨w, F, hold, ?_⟩
  cases e : it w with
  | bad => rw [e] at q; exact q
  | ex c fs w1 =>
    rw [e] at q
    exact fun cls od H' F' st h' x => q cls od s H' F' st (.refl _ _) h' x
  | ok p w1 =>
    rw [e] at q
    replace q : PoS K mg Eh (wrT tg ++ wrB) H F s (putR ks p.2 (forL tg body p.1 w1)) E := q
    intro J H1 F1 tvs st h1 src lnk
    refine ⟨fun i m s2 H2 => m + i = p.1.length ∧ i ≤ p.1.length ∧ ∃ w2 F2, Stp F H F2 H2 ∧ Agr (wrT tg ++ wrB) s s2 ∧ Hold K H2 w2 s2 p.2 tvs F2 ∧
      PoS K mg Eh (wrT tg ++ wrB) H F s (putR ks p.2 (forL tg body (p.1.drop i) w2)) E, ⟨p.1.length, by omega, by omega, w1, F1, st, .refl _ _, h1, q⟩, ?_⟩
    rintro i m s2 H2 ⟨e1, e2, w2, F2, st2, ag2, h2, q2⟩
    obtain ⟨ft, rt⟩ := h2.rvs
    have hlen := hold_len h2
    have lnk2 := lnk_agr lnk ag2 hj
    by_cases hi : i < p.1.length
    · have hd : p.1[i]? = some p.1[i] := List.getElem?_eq_getElem hi
      have hdr : p.1.drop i = p.1[i] :: p.1.drop (i + 1) := List.drop_eq_getElem_cons hi
      rw [hdr] at q2
      refine .inr ⟨src.go H2 ft i rt hi, fun s' H' => ∃ w3 F3, Stp F H F3 H' ∧ Agr (wrT tg ++ wrB) s s' ∧ Hold K H' w3 s' p.2 tvs F3 ∧
        PoS K mg Eh (wrT tg ++ wrB) H F s (putR ks p.2 (forL tg body (p.1.drop (i + 1)) w3)) E, fun s' H' hN => ⟨m - 1, by omega, by omega, hi, hN⟩, fun x H' hy => ?_⟩
      obtain ⟨kp, rx⟩ := src.yld H2 ft i _ x H' rt hd hy
      cases et : setT tg p.1[i] w2 with
      | none =>
        have : putR ks p.2 (forL tg body (p.1[i] :: p.1.drop (i + 1)) w2) = .bad := by rw [forL_cons, et]; rfl
        rw [this] at q2; exact q2.elim
      | some w3 =>
        refine hg x s2 H' _ w2 w3 F2 p.2 tvs p.1[i] rx (src.pl i _ hd) (hold_kp h2 kp) et fun s3 F3 ag3 sub3 h3 => ?_
        have st3 : Stp F H F3 H' := (st2.trans (stp_kp kp)).trans (Stp.refl sub3)
        have ag3' : Agr (wrT tg ++ wrB) s s3 := ag2.trans (ag3.mono fun k m => List.mem_append_left _ m)
        obtain ⟨F0, h0, sub0, fr⟩ := h3.frame
        refine ⟨w3, F0, h0, ?_⟩
        have q3 : PoS K mg Eh (wrT tg ++ wrB) H F s (putR ks p.2 ((body w3).bind fun fl w2 => match fl with
            | .nx => forL tg body (p.1.drop (i + 1)) w2
            | .ct => forL tg body (p.1.drop (i + 1)) w2
            | .bk => .ok .nx w2
            | .rt v => .ok (.rt v) w2)) E := by
          have z : forL tg body (p.1[i] :: p.1.drop (i + 1)) w2 = (body w3).bind fun fl w2 => match fl with
            | .nx => forL tg body (p.1.drop (i + 1)) w2
            | .ct => forL tg body (p.1.drop (i + 1)) w2
            | .bk => .ok .nx w2
            | .rt v => .ok (.rt v) w2 := by
            rw [forL_cons, et]
          rw [z] at q2
          exact q2
        clear q2
        have agB : ∀ {s'}, Agr wrB s3 s' → Agr (wrT tg ++ wrB) s s' := fun ag => ag3'.trans (ag.mono fun k m => List.mem_append_right _ m)
        cases eb : body w3 with
        | bad => rw [eb] at q3; exact q3
        | ex c fs w4 =>
          rw [eb] at q3
          intro cls od s' H4 F4 st4 ag4 h4 x
          obtain ⟨F5, h5, st5⟩ := fr st4 h4
          rw [List.append_nil, List.append_nil] at h5
          obtain ⟨F6, h6, sub6⟩ := Hold.putL h5 (lnk_agr lnk (agB ag4) hj)
          exact q3 cls od s' H4 F6 ((st3.trans st5).trans (Stp.refl sub6)) (agB ag4) h6 x
        | ok fl w4 =>
          rw [eb] at q3
          cases fl with
          | nx =>
            intro s' H4 F4 st4 ag4 h4
            obtain ⟨F5, h5, st5⟩ := fr st4 h4
            rw [List.append_nil, List.append_nil] at h5
            exact ⟨w4, F5, st3.trans st5, agB ag4, h5, q3⟩
          | ct =>
            intro s' H4 F4 st4 ag4 h4
            obtain ⟨F5, h5, st5⟩ := fr st4 h4
            rw [List.append_nil, List.append_nil] at h5
            exact ⟨w4, F5, st3.trans st5, agB ag4, h5, q3⟩
          | bk =>
            intro s' H4 F4 st4 ag4 h4
            obtain ⟨F5, h5, st5⟩ := fr st4 h4
            rw [List.append_nil, List.append_nil] at h5
            obtain ⟨F6, h6, sub6⟩ := Hold.putL h5 (lnk_agr lnk (agB ag4) hj)
            exact q3 s' H4 F6 ((st3.trans st5).trans (Stp.refl sub6)) (agB ag4) h6
          | rt v =>
            intro x' s' H4 F4 st4 ag4 h4
            obtain ⟨F5, h5, st5⟩ := fr st4 h4
            obtain ⟨F6, h6, sub6⟩ := Hold.putL2 h5 hlen (lnk_agr lnk (agB ag4) hj)
            exact q3 x' s' H4 F6 ((st3.trans st5).trans (Stp.refl sub6)) (agB ag4) h6
    · have ei : i = p.1.length := by omega
      subst ei
      refine .inl ⟨src.stop H2 ft rt, ?_⟩
      rw [List.drop_length] at q2
      obtain ⟨F6, h6, sub6⟩ := Hold.putL h2 lnk2
      exact q2 s2 H2 F6 (st2.trans (Stp.refl sub6)) ag2 h6
def lkOk (ks : List (Option Nat)) (wr : List Nat) : Bool := ks.all fun o => match o with
  | some j => !wr.contains j
  | none => true
theorem lkOk_of {ks : List (Option Nat)} {wr : List Nat} (h : lkOk ks wr = true) : ∀ j, some j ∈ ks → j ∉ wr := fun j m z => by
  have := List.all_eq_true.mp h _ m
  simp at this
  exact this z
theorem ss_for {tgE iter : Expr} {b : List Stmt} {pos : Pos} {g : TG} {tg : Tgt} {body : PM Fl} {wrB : List Nat} {ks : List (Option Nat)} {it : PM (List D × List D)} (hp : PassesOwn (model X.prog X.w) X.A X.env X.xe) (hc : X.calm = true)
    (hi : PI X tgE iter (tI X.K X.mg Eh ks it)) (hg : PG X tgE g) (hr : TgR X.K g tg) (hb : PSs X b (tS X.K X.mg Eh wrB body)) (hj : lkOk ks (wrT tg ++ wrB) = true := by rfl)
    (hs : ∀ x, foldedSetIterable iter X.env x = pure x := by intro _; rfl) : PS X (.For tgE iter b [] pos) (tS X.K X.mg Eh (wrT tg ++ wrB) (sFor ks it tg body)) :=
  (ps_for hp hc hi hg hb hs).imp fun E s H h => for_imp hr (lkOk_of hj) h

/-! ### while -/
def whL (t : PM Bool) (body : PM Fl) : Nat → PM Fl
  | 0 => fun _ => .bad
  | n + 1 => fun w => (t w).bind fun b w1 => if b = true then (body w1).bind fun fl w2 => match fl with
      | .nx => whL t body n w2
      | .ct => whL t body n w2
      | .bk => .ok .nx w2
      | .rt v => .ok (.rt v) w2
    else .ok .nx w1
open Classical in
noncomputable def sWh (t : PM Bool) (body : PM Fl) : PM Fl := fun w => if h : ∃ n, whL t body n w ≠ .bad then whL t body (Classical.choose h) w else .bad
theorem whL_more {t : PM Bool} {body : PM Fl} : ∀ {n k : Nat} {w : Ev}, whL t body n w ≠ .bad → whL t body (n + k) w = whL t body n w
  | 0, k, w, h => absurd rfl h
  | n + 1, k, w, h => by
    rw [show n + 1 + k = (n + k) + 1 by omega]
    unfold whL at h ⊢
    cases et : t w with
    | bad => rfl
    | ex c fs w1 => rfl
    | ok b w1 =>
      rw [et] at h
      rw [Rs.bind_ok] at h ⊢
      rw [Rs.bind_ok]
      cases b with
      | false => rfl
      | true =>
        rw [if_pos rfl] at h ⊢
        rw [if_pos rfl]
        cases eb : body w1 with
        | bad => rfl
        | ex c fs w2 => rfl
        | ok fl w2 =>
          rw [eb] at h
          rw [Rs.bind_ok] at h ⊢
          rw [Rs.bind_ok]
          cases fl with
          | nx => exact whL_more (k := k) h
          | ct => exact whL_more (k := k) h
          | bk => rfl
          | rt v => rfl
theorem sWh_eq {t : PM Bool} {body : PM Fl} {w : Ev} (n : Nat) (h : whL t body n w ≠ .bad) : sWh t body w = whL t body n w := by
  have hx : ∃ n, whL t body n w ≠ .bad := ⟨n, h⟩
  unfold sWh
  rw [dif_pos hx]
  have hm := Classical.choose_spec hx
  rcases Nat.le_total n (Classical.choose hx) with z | z
  · obtain ⟨k, e⟩ := Nat.exists_eq_add_of_le z
    rw [e]
    exact whL_more h
  · obtain ⟨k, e⟩ := Nat.exists_eq_add_of_le z
    have := whL_more (k := k) hm
    rw [← e] at this
    exact this.symm
theorem while_imp {K : PySem.W.Frag} {mg : Str → Option Value} {t : PM Bool} {body : PM Fl} {wr : List Nat} (h : tS K mg Eh wr (sWh t body) E s H) : tWhile (tT K mg Eh t) (tS K mg Eh wr body) E s H := by
  obtain ⟨w, F, hold, q⟩ := h
  unfold sWh at q
  by_cases hx : ∃ n, whL t body n w ≠ .bad
  · rw [dif_pos hx] at q
    refine ⟨fun m s2 H2 => ∃ w2 F2, Stp F H F2 H2 ∧ Agr wr s s2 ∧ Hold K H2 w2 s2 [] [] F2 ∧ PoS K mg Eh wr H F s (whL t body m w2) E, ⟨_, w, F, Stp.refl fun _ m => m, .refl _ _, hold, q⟩, ?_⟩
    rintro m s2 H2 ⟨w2, F2, st2, ag2, h2, q2⟩
    cases m with
    | zero => exact q2.elim
    | succ m =>
      unfold whL at q2
      refine ⟨w2, F2, h2, ?_⟩
      cases et : t w2 with
      | bad => rw [et] at q2; exact q2
      | ex c fs w3 =>
        rw [et] at q2
        exact fun cls od H' F' st' h' x => q2 cls od s2 H' F' (st2.trans st') ag2 h' x
      | ok b w3 =>
        rw [et] at q2
        rw [Rs.bind_ok] at q2
        intro H3 F3 st3 h3
        cases b with
        | false => rw [if_neg Bool.false_ne_true] at q2 ⊢; exact q2 s2 H3 F3 (st2.trans st3) ag2 h3
        | true =>
          rw [if_pos rfl] at q2 ⊢
          refine ⟨fun s' H' => ∃ w2 F2, Stp F H F2 H' ∧ Agr wr s s' ∧ Hold K H' w2 s' [] [] F2 ∧ PoS K mg Eh wr H F s (whL t body m w2) E, fun s' H' hN => ⟨m, Nat.lt_succ_self _, hN⟩, w3, F3, h3, ?_⟩
          cases eb : body w3 with
          | bad => rw [eb] at q2; exact q2
          | ex c fs w4 =>
            rw [eb] at q2
            exact fun cls od s' H' F' st' ag' h' x => q2 cls od s' H' F' ((st2.trans st3).trans st') (ag2.trans ag') h' x
          | ok fl w4 =>
            rw [eb] at q2
            cases fl with
            | nx => exact fun s' H' F' st' ag' h' => ⟨w4, F', (st2.trans st3).trans st', ag2.trans ag', h', q2⟩
            | ct => exact fun s' H' F' st' ag' h' => ⟨w4, F', (st2.trans st3).trans st', ag2.trans ag', h', q2⟩
            | bk => exact fun s' H' F' st' ag' h' => q2 s' H' F' ((st2.trans st3).trans st') (ag2.trans ag') h'
            | rt v => exact fun x s' H' F' st' ag' h' => q2 x s' H' F' ((st2.trans st3).trans st') (ag2.trans ag') h'
  · rw [dif_neg hx] at q; exact q.elim
theorem ss_while {c : Expr} {b : List Stmt} {pos : Pos} {t : PM Bool} {body : PM Fl} {wr : List Nat} (hp : PassesOwn (model X.prog X.w) X.A X.env X.xe) (hc : PT X c (tT X.K X.mg Eh t)) (hb : PSs X b (tS X.K X.mg Eh wr body)) :
    PS X (.While c b [] pos) (tS X.K X.mg Eh wr (sWh t body)) := (ps_while hp hc hb).imp fun E s H h => while_imp h
end

/-! ### comprehensions -/
def wipeE (w : Ev) : List Nat → Ev
  | [] => w
  | v :: vs => (wipeE w vs).set v none
def Rs.bindN {α β : Type} (r : Rs α) (k : α → Ev → Rs β) : Rs β := match r with
  | .ok a w => k a w
  | _ => .bad
@[simp] theorem Rs.bindN_ok {α β : Type} (a : α) (w : Ev) (k : α → Ev → Rs β) : (Rs.ok a w).bindN k = k a w := rfl
def cmpL (tg : Tgt) (c : PM Bool) (elt : PM D) (vs : List Nat) : List D → List D → PM (List D)
  | [], acc => fun w => .ok acc w
  | d :: ds, acc => fun w => match setT tg d (wipeE w vs) with
    | some w1 => (c w1).bindN fun b w2 => if b = true then (elt w2).bindN fun e w3 => if acc.length < sizeLine then cmpL tg c elt vs ds (acc ++ [e]) w3 else .bad
      else cmpL tg c elt vs ds acc w2
    | none => .bad
theorem cmpL_nil {tg : Tgt} {c : PM Bool} {elt : PM D} {vs : List Nat} {acc : List D} {w : Ev} : cmpL tg c elt vs [] acc w = .ok acc w := rfl
theorem cmpL_cons {tg : Tgt} {c : PM Bool} {elt : PM D} {vs : List Nat} {d : D} {ds acc : List D} {w : Ev} : cmpL tg c elt vs (d :: ds) acc w = match setT tg d (wipeE w vs) with
    | some w1 => (c w1).bindN fun b w2 => if b = true then (elt w2).bindN fun e w3 => if acc.length < sizeLine then cmpL tg c elt vs ds (acc ++ [e]) w3 else .bad
      else cmpL tg c elt vs ds acc w2
    | none => .bad := rfl
def xComp (ks : List (Option Nat)) (it : PM (List D × List D)) (tg : Tgt) (c : PM Bool) (elt : PM D) (vs : List Nat) : PM D := fun w => (it w).bind fun p w1 => (cmpL tg c elt vs p.1 [] w1).bindN fun acc w2 => Rs.ok (D.own acc) (putB ks p.2 (wipeE w2 vs))
def tYesF : PM Bool := fun w => .ok true w
theorem wipeE_some {w : Ev} {i : Nat} {d : D} : ∀ {vs : List Nat}, (wipeE w vs)[i]? = some (some d) → w[i]? = some (some d) ∧ i ∉ vs
  | [], h => ⟨h, fun z => nomatch z⟩
  | v :: vs, h => by
    unfold wipeE at h
    by_cases hi : v = i
    · subst hi
      rw [List.getElem?_set] at h
      rw [if_pos rfl] at h
      split at h <;> cases h
    · rw [List.getElem?_set_ne hi] at h
      obtain ⟨h1, h2⟩ := wipeE_some h
      exact ⟨h1, fun z => (List.mem_cons.mp z).elim (fun e => hi e.symm) h2⟩
theorem wipe_get {s : L2.St} {i : Nat} : ∀ {vs : List Nat}, i ∉ vs → (wipe s vs)[i]? = s[i]?
  | [], _ => rfl
  | v :: vs, h => by
    unfold wipe
    rw [List.getElem?_set_ne (fun e => h (by rw [← e]; exact List.mem_cons_self))]
    exact wipe_get fun z => h (List.mem_cons_of_mem _ z)
theorem wipe_in {s : L2.St} {i : Nat} (hi : i < s.length) : ∀ {vs : List Nat}, i ∈ vs → (wipe s vs)[i]? = some none
  | [], h => nomatch h
  | v :: vs, h => by
    unfold wipe
    by_cases e : v = i
    · subst e
      rw [List.getElem?_set_self (by rw [wipe_length]; exact hi)]
    · rw [List.getElem?_set_ne e]
      exact wipe_in hi ((List.mem_cons.mp h).elim (fun z => absurd z.symm e) id)
theorem wipe_ext {a b : L2.St} {vs : List Nat} (hl : a.length = b.length) (h : ∀ i, i ∉ vs → a[i]? = b[i]?) : wipe a vs = wipe b vs := by
  refine List.ext_getElem? fun i => ?_
  by_cases m : i ∈ vs
  · by_cases hi : i < a.length
    · rw [wipe_in hi m, wipe_in (by rw [← hl]; exact hi) m]
    · rw [List.getElem?_eq_none (by rw [wipe_length]; omega), List.getElem?_eq_none (by rw [wipe_length]; omega)]
  · rw [wipe_get m, wipe_get m, h i m]
theorem RE.agree {K : PySem.W.Frag} {H : Hp} : ∀ {w : Ev} {s s' : L2.St} {fe : List Addr}, RE K H w s fe → s'.length = s.length → (∀ (i : Nat) (d : D), w[i]? = some (some d) → s'[i]? = s[i]?) → RE K H w s' fe
  | [], s, s', fe, h, hl, _ => by
    obtain ⟨e, e2⟩ := h
    subst e
    exact ⟨List.length_eq_zero_iff.mp hl, e2⟩
  | none :: r, s, s', fe, h, hl, hx => by
    obtain ⟨x, t, e, q⟩ := h
    subst e
    match s', hl, hx with
    | y :: t', hl, hx => exact ⟨y, t', rfl, RE.agree q (by simpa using hl) fun i d e => by simpa using hx (i + 1) d (by simpa using e)⟩
  | some d :: r, s, s', fe, h, hl, hx => by
    obtain ⟨v, t, f, g, e, q, q2, e2⟩ := h
    subst e
    match s', hl, hx with
    | y :: t', hl, hx =>
      have e3 : y = some v := by simpa using hx 0 d rfl
      subst e3
      exact ⟨v, t', f, g, rfl, q, RE.agree q2 (by simpa using hl) fun i d e => by simpa using hx (i + 1) d (by simpa using e), e2⟩
theorem Hold.agree {K : PySem.W.Frag} {H : Hp} {w : Ev} {s s' : L2.St} {ds : List D} {vs : List V} {F : List Addr} (h : Hold K H w s ds vs F) (hl : s'.length = s.length) (hx : ∀ (i : Nat) (d : D), w[i]? = some (some d) → s'[i]? = s[i]?) : Hold K H w s' ds vs F := by
  obtain ⟨ft, fe, h1, h2, p, nd⟩ := h
  exact ⟨ft, fe, h1, h2.agree hl hx, p, nd⟩
theorem Hold.wipes {K : PySem.W.Frag} {H : Hp} {w : Ev} {s : L2.St} {ds : List D} {vs : List V} {F : List Addr} (h : Hold K H w s ds vs F) : ∀ l : List Nat, ∃ F', Hold K H (wipeE w l) s ds vs F' ∧ ∀ a ∈ F', a ∈ F
  | [] => ⟨F, h, fun _ m => m⟩
  | v :: l => by
    obtain ⟨F1, h1, s1⟩ := Hold.wipes h l
    obtain ⟨F2, h2, s2⟩ := h1.wipe v
    exact ⟨F2, h2, fun a m => s1 a (s2 a m)⟩
/-- the state of a turn: from any state alike but for the comprehension's own names -/
theorem Hold.turn {K : PySem.W.Frag} {H : Hp} {w : Ev} {s s' : L2.St} {ds : List D} {vs : List V} {F : List Addr} {l : List Nat} (h : Hold K H w s' ds vs F) (e : L2.wipe s' l = L2.wipe s l) : ∃ F', Hold K H (wipeE w l) (L2.wipe s l) ds vs F' ∧ Hold K H (wipeE w l) s ds vs F' ∧ ∀ a ∈ F', a ∈ F := by
  obtain ⟨F1, h1, s1⟩ := h.wipes l
  have hl : s.length = s'.length := by rw [← wipe_length s l, ← e, wipe_length]
  have hx : ∀ (i : Nat) (d : D), (wipeE w l)[i]? = some (some d) → s[i]? = s'[i]? := fun i d z => by
    have n := (wipeE_some z).2
    rw [← wipe_get n, ← e, wipe_get n]
  exact ⟨F1, h1.agree (by rw [wipe_length, hl]) fun i d z => by rw [wipe_get (wipeE_some z).2, hx i d z], h1.agree hl hx, s1⟩
theorem Hold.comm {K : PySem.W.Frag} {H : Hp} {w : Ev} {s : L2.St} {ds es : List D} {vs us : List V} {F : List Addr} (h : Hold K H w s (ds ++ es) (vs ++ us) F) (hl : ds.length = vs.length) : Hold K H w s (es ++ ds) (us ++ vs) F := by
  obtain ⟨ft, fe, h1, h2, p, nd⟩ := h
  obtain ⟨vs1, vs2, f, g, e1, e2, q1, q2⟩ := RVs.split h1
  have hl2 := q1.length
  have e3 : vs = vs1 := by
    have := congrArg (List.take vs.length) e1
    rw [List.take_left, ← hl, hl2, List.take_left] at this
    exact this
  subst e3
  have e4 : us = vs2 := List.append_cancel_left e1
  subst e4; subst e2
  exact ⟨g ++ f, fe, q2.append q1, h2, p.trans ((List.perm_append_comm (l₁ := f) (l₂ := g)).append_right fe), nd⟩
/-- the last item held goes into the first one's list -/
theorem Hold.grow {K : PySem.W.Frag} {H : Hp} {w : Ev} {s : L2.St} {xs ds : List D} {vs : List V} {F : List Addr} {a : Addr} {d : D} {v : V} (h : Hold K H w s ((.own xs :: ds) ++ [d]) ((.ref a :: vs) ++ [v]) F) (hl : ds.length = vs.length) :
    ∃ us, H a = some (.lst us) ∧ xs.length = us.length ∧ ∃ F', Hold K (upd H a (.lst (us ++ [v]))) w s (.own (xs ++ [d]) :: ds) (.ref a :: vs) F' ∧ (∀ a ∈ F', a ∈ F) ∧ Stp F H F' (upd H a (.lst (us ++ [v]))) := by
  obtain ⟨ft0, fe, h1, h2, p, nd⟩ := Hold.comm h (by simp [hl])
  obtain ⟨v', r, fd, ft1, e1, qd, q1, e2⟩ := h1
  injection e1 with e3 e4
  subst e3; subst e4; subst e2
  obtain ⟨v2, r2, f0, ft, e5, q, q2, e6⟩ := q1
  injection e5 with e7 e8
  subst e7; subst e8; subst e6
  obtain ⟨a', us, f, e9, q5, r5, e10⟩ := q
  cases e9
  subst e10
  refine ⟨us, q5, r5.length, ?_⟩
  have k : Kp [a] H (upd H a (.lst (us ++ [v]))) := fun b o e n => by rw [upd_ne (fun z => n (by rw [z]; exact List.mem_cons_self))]; exact e
  have mk : ∀ b ∈ [a], Mut (H b) := fun b m => by
    have e : b = a := by simpa using m
    rw [e, q5]; trivial
  have p2 : F.Perm (a :: (fd ++ (f ++ (ft ++ fe)))) := by
    refine p.trans ?_
    show ((fd ++ (a :: f ++ ft)) ++ fe).Perm _
    rw [List.append_assoc, List.cons_append, List.cons_append, List.append_assoc]
    exact List.perm_middle
  have n0 := p2.nodup_iff.mp nd
  obtain ⟨na, n1⟩ := List.nodup_cons.mp n0
  have apart : ∀ (l : List Addr), (∀ b ∈ l, b ∈ fd ++ (f ++ (ft ++ fe))) → ∀ b ∈ l, b ∉ [a] := fun l m b mb z => by
    have e : b = a := by simpa using z
    exact na (e ▸ m b mb)
  have r1 := RV.kp k mk d v fd (apart fd fun b m => List.mem_append_left _ m) qd
  have r2 := RVs.kp k mk xs us f (apart f fun b m => List.mem_append_right _ (List.mem_append_left _ m)) r5
  have r3 := RVs.kp k mk ds vs ft (apart ft fun b m => List.mem_append_right _ (List.mem_append_right _ (List.mem_append_left _ m))) q2
  have r4 := h2.kp k mk (apart fe fun b m => List.mem_append_right _ (List.mem_append_right _ (List.mem_append_right _ m)))
  have p3 : F.Perm ((a :: (f ++ fd) ++ ft) ++ fe) := by
    refine p2.trans (List.Perm.cons a ?_)
    show (fd ++ (f ++ (ft ++ fe))).Perm (((f ++ fd) ++ ft) ++ fe)
    rw [List.append_assoc, List.append_assoc, ← List.append_assoc, ← List.append_assoc f]
    exact (List.perm_append_comm (l₁ := fd) (l₂ := f)).append_right (ft ++ fe)
  refine ⟨F, ⟨a :: (f ++ fd) ++ ft, fe, ⟨.ref a, vs, a :: (f ++ fd), ft, rfl, ⟨a, us ++ [v], f ++ fd, rfl, upd_same, r2.append (RVs.one r1), rfl⟩, r3, rfl⟩, r4, p3, nd⟩, fun _ m => m, fun b o e n => k b o e fun z => n ?_, fun b m => .inl m⟩
  have e : b = a := by simpa using z
  rw [e]
  exact p3.mem_iff.mpr (List.mem_append_left _ (List.mem_append_left _ List.mem_cons_self))
section
variable {X : Cx} {Eh : WX} {s : L2.St} {H H1 : Hp} {F F1 : List Addr}
theorem tP_runN {K : PySem.W.Frag} {mg : Str → Option Value} {f : PM D} {R : VK} {w1 w2 : Ev} {d : D} {ds : List D} {vs : List V} (hold : Hold K H1 w1 s ds vs F1) (e : f w1 = .ok d w2)
    (c : ∀ v H2 F2, Stp F1 H1 F2 H2 → Hold K H2 w2 s (ds ++ [d]) (vs ++ [v]) F2 → R v H2) : tP K mg Eh f s H1 R := by
  obtain ⟨F0, h0, sub, fr⟩ := hold.frame
  refine ⟨w1, F0, h0, ?_⟩
  rw [e]
  intro v H' F' st' h'
  obtain ⟨F2, h2, st2⟩ := fr st' h'
  exact c v H' F2 st2 h2
theorem tT_runN {K : PySem.W.Frag} {mg : Str → Option Value} {f : PM Bool} {R : Bool → Hp → Prop} {w1 w2 : Ev} {b : Bool} {ds : List D} {vs : List V} (hold : Hold K H1 w1 s ds vs F1) (e : f w1 = .ok b w2)
    (c : ∀ H2 F2, Stp F1 H1 F2 H2 → Hold K H2 w2 s ds vs F2 → R b H2) : tT K mg Eh f s H1 R := by
  obtain ⟨F0, h0, sub, fr⟩ := hold.frame
  refine ⟨w1, F0, h0, ?_⟩
  rw [e]
  intro H' F' st' h'
  obtain ⟨F2, h2, st2⟩ := fr st' h'
  rw [List.append_nil, List.append_nil] at h2
  exact c H' F2 st2 h2
abbrev EhN : WX := fun _ _ _ _ => False
theorem comp_imp {K : PySem.W.Frag} {mg : Str → Option Value} {g : TG} {tg : Tgt} {c : PM Bool} {elt : PM D} {vs : List Nat} {ks : List (Option Nat)} {it : PM (List D × List D)} (hg : TgR K g tg) (hv : ∀ i ∈ wrT tg, i ∈ vs) {Q : VK}
    (h : tP K mg Eh (xComp ks it tg c elt vs) s H Q) : tLc (tI K mg Eh ks it) g (tT K mg EhN c) (tP K mg EhN elt) vs s H Q := by
  obtain ⟨w, F, hold, q⟩ := h
  unfold xComp at q
  refine ⟨w, F, hold, ?_⟩
  cases e : it w with
  | bad => rw [e] at q; exact q
  | ex cc fs w1 =>
    rw [e] at q
    exact q
  | ok p w1 =>
    rw [e] at q
    replace q : Po K mg Eh H F s ((cmpL tg c elt vs p.1 [] w1).bindN fun acc w2 => Rs.ok (D.own acc) (putB ks p.2 (wipeE w2 vs))) (fun d w' => ∀ v H' F', Stp F H F' H' → Hold K H' w' s [d] [v] F' → Q v H') := q
    intro J H1 F1 tvs st h1 src lnk Da nDa
    have hlen := hold_len h1
    have hnew : Hold K (upd H1 Da (.lst [])) w1 s (.own [] :: p.2) (.ref Da :: tvs) (Da :: F1) := by
      have hm := h1.mut
      obtain ⟨ft, fe, k1, k2, pp, nd⟩ := hold_upd (o := .lst []) h1 nDa
      refine ⟨Da :: ft, fe, ⟨.ref Da, tvs, [Da], ft, rfl, ⟨Da, [], [], rfl, upd_same, ⟨rfl, rfl⟩, rfl⟩, k1, rfl⟩, k2, pp.cons Da, List.nodup_cons.mpr ⟨fun m => ?_, nd⟩⟩
      have := hm Da m
      rw [nDa] at this
      exact this
    refine ⟨fun i m H2 => m + i = p.1.length ∧ i ≤ p.1.length ∧ ∃ w2 s2 F2 acc, Stp F H F2 H2 ∧ wipe s2 vs = wipe s vs ∧ Hold K H2 w2 s2 (.own acc :: p.2) (.ref Da :: tvs) F2 ∧
      Po K mg Eh H F s ((cmpL tg c elt vs (p.1.drop i) acc w2).bindN fun acc w2 => Rs.ok (D.own acc) (putB ks p.2 (wipeE w2 vs))) (fun d w' => ∀ v H' F', Stp F H F' H' → Hold K H' w' s [d] [v] F' → Q v H'),
      ⟨p.1.length, by omega, by omega, w1, s, Da :: F1, [], st.trans (stp_upd' nDa), rfl, hnew, q⟩, ?_⟩
    rintro i m H2 ⟨e1, e2, w2, s2, F2, acc, st2, ag2, h2, q2⟩
    obtain ⟨ft, rt⟩ := h2.rvs
    obtain ⟨v0, r0, f0, ft2, e3, rD, rT, e4⟩ := rt
    injection e3 with e5 e6
    subst e5; subst e6
    obtain ⟨F3, h3, h3s, sub3⟩ := h2.turn ag2
    by_cases hi : i < p.1.length
    · have hd : p.1[i]? = some p.1[i] := List.getElem?_eq_getElem hi
      have hdr : p.1.drop i = p.1[i] :: p.1.drop (i + 1) := List.drop_eq_getElem_cons hi
      rw [hdr] at q2
      refine .inr ⟨src.go H2 _ i rT hi, fun H' => ∃ w2 s2 F2 acc, Stp F H F2 H' ∧ wipe s2 vs = wipe s vs ∧ Hold K H' w2 s2 (.own acc :: p.2) (.ref Da :: tvs) F2 ∧
        Po K mg Eh H F s ((cmpL tg c elt vs (p.1.drop (i + 1)) acc w2).bindN fun acc w2 => Rs.ok (D.own acc) (putB ks p.2 (wipeE w2 vs))) (fun d w' => ∀ v H' F', Stp F H F' H' → Hold K H' w' s [d] [v] F' → Q v H'), fun H' hN => ⟨m - 1, by omega, by omega, hi, hN⟩, fun x H' hy => ?_⟩
      obtain ⟨kp, rx⟩ := src.yld H2 _ i _ x H' rT hd hy
      rw [cmpL_cons] at q2
      cases et : setT tg p.1[i] (wipeE w2 vs) with
      | none => rw [et] at q2; exact q2.elim
      | some w3 =>
        rw [et] at q2
        dsimp only at q2
        refine hg x (wipe s vs) H' _ (wipeE w2 vs) w3 F3 (.own acc :: p.2) (.ref Da :: tvs) p.1[i] rx (src.pl i _ hd) (hold_kp h3 kp) et fun s3 F4 ag3 sub4 h4 => ?_
        have ew : wipe s3 vs = wipe s vs := by
          refine wipe_ext (by rw [ag3.1, wipe_length]) fun k n => ?_
          rw [ag3.2 k (fun z => n (hv k z)), wipe_get n]
        refine ⟨ew, ?_⟩
        have st4 : Stp F H F4 H' := ((st2.trans (Stp.refl sub3)).trans (stp_kp kp)).trans (Stp.refl sub4)
        cases ec : c w3 with
        | bad => rw [ec] at q2; exact q2.elim
        | ex _ _ _ => rw [ec] at q2; exact q2.elim
        | ok b w4 =>
          rw [ec] at q2
          refine tT_runN h4 ec fun H5 F5 st5 h5 => ?_
          cases b with
          | false =>
            rw [if_neg Bool.false_ne_true]
            rw [Rs.bindN_ok, if_neg Bool.false_ne_true] at q2
            exact ⟨w4, s3, F5, acc, st4.trans st5, ew, h5, q2⟩
          | true =>
            rw [if_pos rfl]
            rw [Rs.bindN_ok, if_pos rfl] at q2
            cases ee : elt w4 with
            | bad => rw [ee] at q2; exact q2.elim
            | ex _ _ _ => rw [ee] at q2; exact q2.elim
            | ok d w5 =>
              rw [ee] at q2
              refine tP_runN h5 ee fun y H6 F6 st6 h6 => ?_
              obtain ⟨us, hu, hlu, F7, h7, sub7, st7⟩ := Hold.grow h6 hlen
              rw [Rs.bindN_ok] at q2
              by_cases cl : acc.length < sizeLine
              · rw [if_pos cl] at q2
                exact ⟨us, hu, by rw [← hlu]; exact cl, w5, s3, F7, acc ++ [d], ((st4.trans st5).trans st6).trans st7, ew, h7, q2⟩
              · rw [if_neg cl] at q2; exact q2.elim
    · have ei : i = p.1.length := by omega
      subst ei
      refine .inl ⟨src.stop H2 _ rT, ?_⟩
      rw [List.drop_length] at q2
      replace q2 : ∀ v H' F', Stp F H F' H' → Hold K H' (putB ks p.2 (wipeE w2 vs)) s [.own acc] [v] F' → Q v H' := q2
      have h8 := Hold.comm (ds := [.own acc]) (vs := [.ref Da]) h3s rfl
      obtain ⟨F9, h9, sub9⟩ := Hold.putL2 h8 hlen lnk
      exact q2 _ H2 F9 ((st2.trans (Stp.refl sub3)).trans (Stp.refl sub9)) h9
theorem pp_comp {elt tgE iter : Expr} {ifs : List Expr} {scope : Scope} {own : List (Str × Nat)} {pos : Pos} {g : TG} {tg : Tgt} {c : PM Bool} {el : PM D} {ks : List (Option Nat)} {it : PM (List D × List D)} (hc : X.calm = true) (hN : X.N.Nodup)
    (hi : PI X tgE iter (tI X.K X.mg Eh ks it)) (ok : BlkOk X.N X.env.scope scope own) (hr : TgR X.K g tg)
    (hg : ∀ (s : Shared) (H : Hp) (C : Addr) (cl : List (Str × Addr)) (fp : List Addr), PG (X.blk s H scope (compEnvC scope cl C X.env) fp) tgE g)
    (ht : ∀ (s : Shared) (H : Hp) (C : Addr) (cl : List (Str × Addr)) (fp : List Addr), PTs (X.blk s H scope (compEnvC scope cl C X.env) fp) ifs (tT X.K X.mg EhN c))
    (he : ∀ (s : Shared) (H : Hp) (C : Addr) (cl : List (Str × Addr)) (fp : List Addr), PE (X.blk s H scope (compEnvC scope cl C X.env) fp) elt (tP X.K X.mg EhN el))
    (hv : ∀ i ∈ wrT tg, i ∈ own.map (·.2) := by decide) (hs : ∀ x, foldedSetIterable iter X.env x = pure x := by intro _; rfl) : PE X (.ListComp elt [⟨tgE, iter, ifs, 0⟩] scope pos) (tP X.K X.mg Eh (xComp ks it tg c el (own.map (·.2)))) :=
  (pe_lc hc hN hi ok hg ht he hs).imp fun s H Q h => comp_imp hr hv h
theorem yes_imp {K : PySem.W.Frag} {mg : Str → Option Value} {Q : Bool → Hp → Prop} (h : tT K mg Eh tYesF s H Q) : tYes s H Q := by
  obtain ⟨w, F, hold, q⟩ := h
  exact q H F (Stp.refl fun _ m => m) hold
theorem _root_.L2.PTs.imp {X : Cx} {ifs : List Expr} {t t' : TT} (h : PTs X ifs t) (i : ∀ s H Q, t' s H Q → t s H Q) : PTs X ifs t' := ⟨fun pins s σ H Q I q => h.run pins s σ H Q I (i _ _ _ q)⟩
theorem pts0 : PTs X [] (tT X.K X.mg Eh tYesF) := pts_nil.imp fun _ _ _ h => yes_imp h
theorem pts1 {e : Expr} {t : TT} (h : PT X e t) : PTs X [e] t := pts_one h
theorem ss_setLc {i : Nat} {y : Str} {py : Pos} {elt tgE iter : Expr} {ifs : List Expr} {scope : Scope} {own : List (Str × Nat)} {pos spos : Pos} {g : TG} {tg : Tgt} {c : PM Bool} {el : PM D} {ks : List (Option Nat)} {it : PM (List D × List D)} (hc : X.calm = true) (hN : X.N.Nodup) (hy : X.N[i]? = some y) (hyl : X.env.scope.names.lookup y = some .local)
    (hsw : swapsWith (.ListComp elt [⟨tgE, iter, ifs, 0⟩] scope pos) (some (.Name y py)) spos.line X.env = pure true) (hi : PI X tgE iter (tI X.K X.mg Eh ks it)) (ok : BlkOk X.N X.env.scope scope own) (hr : TgR X.K g tg)
    (hg : ∀ (s : Shared) (H : Hp) (C : Addr) (cl : List (Str × Addr)) (fp : List Addr), PG (X.blk s H scope (compEnvC scope cl C X.env) fp) tgE g)
    (ht : ∀ (s : Shared) (H : Hp) (C : Addr) (cl : List (Str × Addr)) (fp : List Addr), PTs (X.blk s H scope (compEnvC scope cl C X.env) fp) ifs (tT X.K X.mg EhN c))
    (he : ∀ (s : Shared) (H : Hp) (C : Addr) (cl : List (Str × Addr)) (fp : List Addr), PE (X.blk s H scope (compEnvC scope cl C X.env) fp) elt (tP X.K X.mg EhN el))
    (hv : ∀ i ∈ wrT tg, i ∈ own.map (·.2) := by decide) (hs : ∀ x, foldedSetIterable iter X.env x = pure x := by intro _; rfl) : PS X (.Assign [.Name y py] (.ListComp elt [⟨tgE, iter, ifs, 0⟩] scope pos) spos) (tS X.K X.mg Eh [i] (sSet i (xComp ks it tg c el (own.map (·.2))))) :=
  (ps_setLc hc hN hy hyl hsw hi ok hg ht he hs).imp fun E s H h => by
    have q := set_imp h
    exact comp_imp hr hv q
end
end Pm

set_option autoImplicit false
namespace Pm
open PySem PySem.Spec L2

/-! ### defs -/
inductive Rd where
  | ok (d : D) (outs : List D)
  | ex (c : Str) (fs : List (Str × D)) (outs : List D)
  | bad
/-- what the slots io hold at the end -/
def outsOf : List Nat → Ev → Option (List D)
  | [], _ => some []
  | k :: r, w => match slot w k, outsOf r w with
    | some d, some ds => some (d :: ds)
    | _, _ => none
def startE (N : Nat) (ds : List D) : Ev := ds.map some ++ List.replicate (N - ds.length) none
def endD (d : D) (o : Option (List D)) : Rd := match o with
  | some os => .ok d os
  | none => .bad
def endX (c : Str) (fs : List (Str × D)) (o : Option (List D)) : Rd := match o with
  | some os => .ex c fs os
  | none => .bad
def mkDef (N np : Nat) (io : List Nat) (body : PM Fl) (ds : List D) : Rd := if ds.length = np then match body (startE N ds) with
    | .ok (.rt d) w => endD d (outsOf io w)
    | .ok .nx w => endD .non (outsOf io w)
    | .ok _ _ => .bad
    | .ex c fs w => endX c fs (outsOf io w)
    | .bad => .bad
  else .bad
/-- the promise of a def that lets nothing out -/
def spP (K : PySem.W.Frag) (np : Nat) (io : List Nat) (m : List D → Rd) : Sp := fun vs H Q _ => vs.length = np ∧ ∃ ds F, RVs K H ds vs F ∧ F.Nodup ∧ match m ds with
  | .ok d outs => ∀ v H' F', Stp F H F' H' → RVs K H' (d :: outs) (v :: io.map fun k => vs.getD k .non) F' → F'.Nodup → Q v H'
  | _ => False
theorem outsOf_set : ∀ {io : List Nat} {k : Nat} {w : Ev} {x : Option D}, k ∉ io → outsOf io (w.set k x) = outsOf io w
  | [], k, w, x, _ => rfl
  | i :: io, k, w, x, h => by
    have h1 : k ≠ i := fun e => h (by rw [e]; exact List.mem_cons_self)
    have e1 : slot (w.set k x) i = slot w i := by unfold slot; rw [List.getElem?_set_ne h1]
    unfold outsOf
    rw [e1, outsOf_set fun z => h (List.mem_cons_of_mem _ z)]
theorem outsOf_cons {k : Nat} {io : List Nat} {w : Ev} {os : List D} (h : outsOf (k :: io) w = some os) : ∃ d ds, os = d :: ds ∧ slot w k = some d ∧ outsOf io w = some ds := by
  unfold outsOf at h
  cases e1 : slot w k with
  | none => rw [e1] at h; cases h
  | some d =>
    cases e2 : outsOf io w with
    | none => rw [e1, e2] at h; cases h
    | some ds => rw [e1, e2] at h; cases h; exact ⟨d, ds, rfl, rfl, rfl⟩
theorem Hold.outs {K : PySem.W.Frag} {H : Hp} {s : L2.St} {g : Nat → V} : ∀ {io : List Nat} {w : Ev} {ds os : List D} {vs : List V} {F : List Addr}, Hold K H w s ds vs F → outsOf io w = some os → io.Nodup → (∀ k ∈ io, s[k]? = some (some (g k))) →
    ∃ F', RVs K H (ds ++ os) (vs ++ io.map g) F' ∧ F'.Nodup ∧ ∀ a ∈ F', a ∈ F
  | [], w, ds, os, vs, F, h, e, _, _ => by
    cases e
    obtain ⟨ft, fe, h1, h2, p, nd⟩ := h
    refine ⟨ft, by rw [List.append_nil]; show RVs K H ds (vs ++ []) ft; rw [List.append_nil]; exact h1, (List.nodup_append.mp (p.nodup_iff.mp nd)).1, fun a m => p.mem_iff.mpr (List.mem_append_left _ m)⟩
  | k :: io, w, ds, os, vs, F, h, e, nd, hs => by
    obtain ⟨d, ds', e1, e2, e3⟩ := outsOf_cons e
    subst e1
    obtain ⟨n1, n2⟩ := List.nodup_cons.mp nd
    obtain ⟨v, ev, h2⟩ := h.takeS e2
    rw [hs k List.mem_cons_self] at ev
    cases ev
    have h3 := Hold.comm (ds := [d]) (vs := [g k]) h2 rfl
    obtain ⟨F', r, nd', sub⟩ := Hold.outs (io := io) h3 (by rw [outsOf_set n1]; exact e3) n2 fun i m => hs i (List.mem_cons_of_mem _ m)
    refine ⟨F', ?_, nd', sub⟩
    rw [List.append_assoc, List.append_assoc] at r
    exact r
theorem re_start {K : PySem.W.Frag} {H : Hp} : ∀ {ds : List D} {vs : List V} {F : List Addr} {n : Nat}, RVs K H ds vs F → RE K H (ds.map some ++ List.replicate n none) (vs.map some ++ List.replicate n none) F
  | [], vs, F, n, h => by
    obtain ⟨e, e2⟩ := h
    subst e; subst e2
    show RE K H (List.replicate n none) (List.replicate n none) []
    induction n with
    | zero => exact ⟨rfl, rfl⟩
    | succ n ih => exact ⟨none, _, rfl, ih⟩
  | d :: ds, vs, F, n, h => by
    obtain ⟨v, r, f, g, e, q, t, e2⟩ := h
    subst e; subst e2
    exact ⟨v, _, f, g, rfl, q, re_start t, rfl⟩
section
variable {P : Program} {w : World} {K : PySem.W.Frag} {mg : Str → Option Value} {base : Heap}
theorem fn_p {x qual : Str} {st : Stmt} {f : Addr} {fd : FuncData} {N ps : List Str} {k : Nat} {io wr : List Nat} {body : PM Fl} (F : Fun K x qual st f fd) (S : FnScope N ps (defScope st))
    (hb : ∀ (cdv : Value) (A : Around) (outer : List Env) (s : Shared) (H : Hp) (E : XK), Room k (A.deeper (PyProof.Rows.envOfC qual (defScope st) s.heap.objs.size f cdv)) →
      PSs (cxOf CX0 P w K mg base N qual (defScope st) f cdv A outer s H E).nox (defBody st) (tS K mg EhN wr body))
    (hio : ∀ i ∈ io, i ∉ wr ∧ i < ps.length := by decide) (hnd : io.Nodup := by decide) :
    FnOk P w K mg base CX0 (k + 1) f fd ps (spP K ps.length io (mkDef N.length ps.length io body)) := by
  refine F.ok S (fun vs H Q E h => h.1) fun cdv A outer s H vs Q E hr h => ⟨_, hb cdv A outer s H E hr, ?_⟩
  obtain ⟨hl, ds, FF, rv, nd, q⟩ := h
  have hdl : ds.length = vs.length := rv.length
  unfold mkDef at q
  rw [if_pos (hdl.trans hl)] at q
  have es : start N vs = vs.map some ++ List.replicate (N.length - vs.length) none := rfl
  refine ⟨startE N.length ds, FF, ⟨[], FF, ⟨rfl, rfl⟩, ?_, .refl _, nd⟩, ?_⟩
  · rw [es]
    unfold startE
    rw [hdl]
    exact re_start rv
  · have slots : ∀ {s' : L2.St}, Agr wr (start N vs) s' → ∀ i ∈ io, s'[i]? = some (some (vs.getD i .non)) := fun {s'} ag i m => by
      obtain ⟨n1, n2⟩ := hio i m
      rw [ag.2 i n1, es]
      have hi : i < vs.length := by rw [hl]; exact n2
      rw [List.getElem?_append_left (by simpa using hi), List.getElem?_map, List.getElem?_eq_getElem hi]
      rw [List.getD_eq_getElem?_getD, List.getElem?_eq_getElem hi]
      rfl
    have fin : ∀ {d : D} {w' : Ev} {v : V} {s' : L2.St} {H' : Hp} {F' : List Addr}, (match endD d (outsOf io w') with
        | .ok d outs => ∀ v H' F', Stp FF H F' H' → RVs K H' (d :: outs) (v :: io.map fun k => vs.getD k .non) F' → F'.Nodup → Q v H'
        | _ => False) → Stp FF H F' H' → Agr wr (start N vs) s' → Hold K H' w' s' [d] [v] F' → Q v H' := fun {d w' v s' H' F'} q st ag h' => by
      cases e : outsOf io w' with
      | none => rw [e] at q; exact q.elim
      | some os =>
        rw [e] at q
        obtain ⟨F2, r, nd2, sub⟩ := Hold.outs (g := fun k => vs.getD k .non) h' e hnd (slots ag)
        exact q v H' F2 (st.trans (Stp.refl sub)) r nd2
    cases e : body (startE N.length ds) with
    | bad => rw [e] at q; exact q.elim
    | ex c fs w' =>
      rw [e] at q
      dsimp only at q
      cases e2 : outsOf io w' with
      | none => rw [e2] at q; exact q.elim
      | some os => rw [e2] at q; exact q.elim
    | ok fl w' =>
      rw [e] at q
      cases fl with
      | nx =>
        intro s' H' F' st ag h'
        refine fin (v := .non) q st ag ?_
        obtain ⟨ft, fe, h1, h2, p, nd⟩ := h'
        have e0 : ft = [] := h1.2
        subst e0
        exact ⟨[], fe, RVs.one ⟨rfl, rfl⟩, h2, p, nd⟩
      | rt d => exact fun v s' H' F' st ag h' => fin q st ag h'
      | bk => exact q.elim
      | ct => exact q.elim
end

/-! ### calls -/
def xCall (np : Nat) (js : List Nat) (m : List D → Rd) (f : PM (List D)) : PM D := fun w => (f w).bind fun ds w1 => if ds.length = np then match m ds with
    | .ok d outs => .ok d (putB (js.map some) outs w1)
    | _ => .bad
  else .bad
theorem Hold.call {K : PySem.W.Frag} {H : Hp} {w : Ev} {s : L2.St} {ds : List D} {vs : List V} {F : List Addr} (h : Hold K H w s ds vs F) : ∃ ft, RVs K H ds vs ft ∧ ft.Nodup ∧
    ∀ {H' : Hp} {ds' : List D} {vs' : List V} {F1 : List Addr}, Stp ft H F1 H' → RVs K H' ds' vs' F1 → F1.Nodup → ∃ F', Hold K H' w s ds' vs' F' ∧ Stp F H F' H' := by
  have hm := h.mut
  obtain ⟨ft, fe, h1, h2, p, nd⟩ := h
  obtain ⟨nd3, nd4, nd5⟩ := List.nodup_append.mp (p.nodup_iff.mp nd)
  refine ⟨ft, h1, nd3, fun {H' ds' vs' F1} st h' nd' => ?_⟩
  have dj : ∀ a ∈ fe, a ∉ F1 := fun a m z => by
    rcases st.new a z with q | q
    · exact nd5 a q a m rfl
    · have := hm a (p.mem_iff.mpr (List.mem_append_right _ m))
      rw [q] at this; exact this
  have k1 : RE K H' w s fe := h2.kp st.keep (fun a m => hm a (p.mem_iff.mpr (List.mem_append_left _ m))) fun a m z => nd5 a z a m rfl
  refine ⟨F1 ++ fe, ⟨F1, fe, h', k1, .refl _, List.nodup_append.mpr ⟨nd', nd4, fun a m b n e => dj b n (e ▸ m)⟩⟩, ⟨fun a o e n => st.keep a o e fun z => n (p.mem_iff.mpr (List.mem_append_left _ z)), fun a m => ?_⟩⟩
  rcases List.mem_append.mp m with z | z
  · rcases st.new a z with q | q
    · exact .inl (p.mem_iff.mpr (List.mem_append_left _ q))
    · exact .inr q
  · exact .inl (p.mem_iff.mpr (List.mem_append_right _ z))
theorem ds_list {K : PySem.W.Frag} {H : Hp} {w : Ev} {s : L2.St} {ds : List D} {vs : List V} {F : List Addr} (h : Hold K H w s ds vs F) : ds.length = vs.length := hold_len h
section
variable {X : Cx} {Eh : WX}
theorem call_imp {s : L2.St} {H : Hp} {K : PySem.W.Frag} {mg : Str → Option Value} {np : Nat} {io js : List Nat} {ks : List (Option Nat)} {m : List D → Rd} {f : PM (List D)} {Q : VK} {E : XK} (X : Cx) (hK : X.K = K) (hM : X.mg = mg) (hks : js.map some = io.map fun k => (ks[k]?).getD none) (hio : ∀ k ∈ io, k < np)
    (h : tP K mg Eh (xCall np js m f) s H Q) : tAL K mg Eh ks f s H fun vs H1 => spP K np io m (vs ++ []) H1 Q E := by
  subst hK; subst hM
  obtain ⟨w, F, hold, q⟩ := h
  unfold xCall at q
  refine tAL_run hold (Stp.refl fun _ m => m) q fun ds w2 us H2 F2 e st h2 l q2 => ?_
  replace h2 : Hold X.K H2 w2 s ds us F2 := h2
  by_cases c : ds.length = np
  · rw [if_pos c] at q2
    rw [List.append_nil]
    obtain ⟨ft, rt, nd, fr⟩ := h2.call
    refine ⟨by rw [← hold_len h2]; exact c, ds, ft, rt, nd, ?_⟩
    cases em : m ds with
    | bad => rw [em] at q2; exact q2
    | ex _ _ _ => rw [em] at q2; exact q2
    | ok d outs =>
      rw [em] at q2
      intro v H' F' st' r nd'
      obtain ⟨F3, h3, st3⟩ := fr st' r nd'
      have h4 := Hold.comm (ds := [d]) (vs := [v]) h3 rfl
      have hl : outs.length = (io.map fun k => us.getD k .non).length := by
        have := r.length
        simpa using this
      have lk : Lnk s (js.map some) (io.map fun k => us.getD k .non) := fun i j u e1 e2 => by
        rw [hks, List.getElem?_map] at e1
        rw [List.getElem?_map] at e2
        obtain ⟨k, e3, e4⟩ := Option.map_eq_some_iff.mp e1
        rw [e3] at e2
        have e5 : us.getD k .non = u := by simpa using e2
        have e6 : ks[k]? = some (some j) := by
          cases z : ks[k]? with
          | none => rw [z] at e4; cases e4
          | some o => rw [z] at e4; exact congrArg some e4
        have hkl : k < us.length := by
          rw [← hold_len h2, c]
          exact hio k (List.mem_of_getElem? e3)
        exact l k j u e6 (by rw [← e5, List.getD_eq_getElem?_getD, List.getElem?_eq_getElem hkl]; rfl)
      obtain ⟨F5, h5, sub5⟩ := Hold.putL2 h4 hl lk
      exact q2 v H' F5 ((st.trans st3).trans (Stp.refl sub5)) h5
  · rw [if_neg c] at q2; exact q2.elim
theorem pp_call {k : Nat} {f : Addr} {fd : FuncData} {ps : List Str} {io js : List Nat} {ks : List (Option Nat)} {m : List D → Rd} {g : PM (List D)} {x : Str} {p pos : Pos} {e : Expr} {es : List Expr} (np : Nat) (F : FnOk X.prog X.w X.K X.mg X.base CX0 k f fd ps (spP X.K np io m)) (hr : Room k X.A) (hg : Gl X x) (hm : X.mg x = some (.ref f)) (hk : PySem.W.keepIn X.K (.ref f) = true) (hb : Binds X.K fd ps [])
    (ha : PA X (e :: es) (tAL X.K X.mg Eh ks g)) (hks : js.map some = io.map fun k => (ks[k]?).getD none := by rfl) (hio : ∀ k ∈ io, k < np := by decide) (hdb : (x == ("__debug__" : Str)) = false := by decide) (he : starEach (e :: es) X.env = (false, eval e X.env) :: starEach es X.env := by rfl) (hpl : (backTo pos (starEach es X.env)).any (·.1) = false := by rfl) :
    PE X (.Call (.Name x p) (e :: es) [] pos) (tP X.K X.mg Eh (xCall np js m g)) :=
  (pe_call F hr hg hm hk hb .nil pass0 ha hdb he hpl).imp fun s H Q h => call_imp X rfl rfl hks hio h
theorem pp_call0 {k : Nat} {f : Addr} {fd : FuncData} {ps : List Str} {m : List D → Rd} {x : Str} {p pos : Pos} (F : FnOk X.prog X.w X.K X.mg X.base CX0 k f fd ps (spP X.K 0 [] m)) (hr : Room k X.A) (hg : Gl X x) (hm : X.mg x = some (.ref f)) (hk : PySem.W.keepIn X.K (.ref f) = true) (hb : Binds X.K fd ps [])
    (hdb : (x == ("__debug__" : Str)) = false := by decide) :
    PE X (.Call (.Name x p) [] [] pos) (tP X.K X.mg Eh (xCall 0 [] m xNil)) :=
  (pe_call0 F hr hg hm hk hb .nil pass0 hdb).imp fun s H Q ⟨w, F, hold, q⟩ => by
    unfold xCall xNil at q
    refine ⟨rfl, [], [], ⟨rfl, rfl⟩, .nil, ?_⟩
    replace q : Po X.K X.mg Eh H F s (match m [] with
      | .ok d outs => Rs.ok d (putB (([] : List Nat).map some) outs w)
      | _ => .bad) (fun d w' => ∀ v H' F', Stp F H F' H' → Hold X.K H' w' s [d] [v] F' → Q v H') := q
    cases em : m [] with
    | bad => rw [em] at q; exact q
    | ex _ _ _ => rw [em] at q; exact q
    | ok d outs =>
      rw [em] at q
      intro v H' F' st' r nd'
      obtain ⟨ft, r0, nd0, fr⟩ := hold.call
      have e0 : ft = [] := r0.2
      subst e0
      obtain ⟨F3, h3, st3⟩ := fr st' r nd'
      have hl : outs.length = 0 := by simpa using r.length
      have eo : outs = [] := List.length_eq_zero_iff.mp hl
      subst eo
      exact q v H' F3 st3 h3
end
end Pm

set_option autoImplicit false
namespace Pm
open PySem PySem.Spec L2

/-! ### a list freezes -/
theorem pe_ice {X : Cx} {e : Expr} {t : TE} (h : PE X e t) : PE X e (fun s H Q => t s H fun v H1 => Q v H1 ∨ ∃ d u, H1 d = some u ∧ Mut (some u) ∧ ∀ od, Q v (upd H1 d (.frz od u))) := by
  refine ⟨fun pins s σ H Q I hw => ?_⟩
  refine thn (h.run pins s σ H _ I hw) fun u s1 ⟨v, H1, I1, r, q⟩ => ?_
  rcases q with q | ⟨d, o, hd, mu, q⟩
  · exact ⟨v, H1, I1, r, q⟩
  · obtain ⟨od, I2⟩ := I1.lock hd mu
    exact ⟨v, _, I2, r, q od⟩
def xI (j : Nat) : PM D := fun w => match slot w j with
  | some d => if pl d = true then .ok d w else match ownD d with
    | some xs => if pls xs = true then .ok (.lst xs) (w.set j (some (.lst xs))) else .bad
    | none => .bad
  | none => .bad
section
variable {X : Cx} {Eh : WX} {s : L2.St} {H : Hp} {F : List Addr}
theorem hold_ice {K : PySem.W.Frag} {w : Ev} {ds : List D} {vs : List V} {xs : List D} {j : Nat} (h : Hold K H w s ds vs F) (e : slot w j = some (.own xs)) (p : pls xs = true) :
    ∃ a us, s[j]? = some (some (.ref a)) ∧ H a = some (.lst us) ∧ ∀ od, ∃ F', Hold K (upd H a (.frz od (.lst us))) (w.set j (some (.lst xs))) s (.lst xs :: ds) (.ref a :: vs) F' ∧ (∀ b ∈ F', b ∈ F) ∧ Stp F H F' (upd H a (.frz od (.lst us))) := by
  obtain ⟨v, ej, h1⟩ := h.takeS e
  obtain ⟨ft0, fe, k1, k2, pp, nd⟩ := h1
  obtain ⟨v', r, f0, ft, e1, q, q2, e2⟩ := k1
  injection e1 with e3 e4
  subst e3; subst e4; subst e2
  obtain ⟨a, us, f, e5, q5, r5, e6⟩ := q
  subst e5; subst e6
  have r6 := r5.nil_of p
  have ef : f = [] := rvs_pl xs us f p r5
  subst ef
  refine ⟨a, us, ej, q5, fun od => ?_⟩
  have k : Kp [a] H (upd H a (.frz od (.lst us))) := fun b o e n => by rw [upd_ne (fun z => n (by rw [z]; exact List.mem_cons_self))]; exact e
  have mk : ∀ b ∈ [a], Mut (H b) := fun b m => by
    have e : b = a := by simpa using m
    rw [e, q5]; trivial
  have n0 : (a :: (ft ++ fe)).Nodup := pp.nodup_iff.mp nd
  obtain ⟨na, n1⟩ := List.nodup_cons.mp n0
  have apart : ∀ (l : List Addr), (∀ b ∈ l, b ∈ ft ++ fe) → ∀ b ∈ l, b ∉ [a] := fun l m b mb z => by
    have e : b = a := by simpa using z
    exact na (e ▸ m b mb)
  have r3 := RVs.kp k mk ds vs ft (apart ft fun b m => List.mem_append_left _ m) q2
  have r4 := k2.kp k mk (apart fe fun b m => List.mem_append_right _ m)
  have r7 := RVs.kp k mk xs us [] (fun _ z => nomatch z) r6
  have rl : RV K (upd H a (.frz od (.lst us))) (.lst xs) (.ref a) [] := ⟨a, us, rfl, .inl ⟨od, upd_same⟩, r7, rfl⟩
  have hh : Hold K (upd H a (.frz od (.lst us))) (w.set j none) s ds vs (ft ++ fe) := ⟨ft, fe, r3, r4, .refl _, n1⟩
  obtain ⟨F3, h3, sub3⟩ := Hold.putS (hh.addP rl) ej
  rw [List.set_set] at h3
  have sub : ∀ b ∈ F3, b ∈ F := fun b m => pp.mem_iff.mpr (List.mem_cons_of_mem _ (sub3 b m))
  refine ⟨F3, h3.addP rl, sub, fun b o e n => k b o e fun z => n ?_, fun b m => .inl (sub b m)⟩
  have e : b = a := by simpa using z
  rw [e]
  exact pp.mem_iff.mpr List.mem_cons_self
theorem pp_ice {e : Expr} {j : Nat} (h : PE X e (tVar j)) : PE X e (tP X.K X.mg Eh (xI j)) := (pe_ice h).imp fun s H Q ⟨w, F, hold, q⟩ => by
  cases e0 : slot w j with
  | none => rw [show xI j w = .bad by unfold xI; rw [e0]] at q; exact q.elim
  | some d =>
    by_cases p : pl d = true
    · rw [show xI j w = .ok d w by unfold xI; rw [e0]; exact if_pos p] at q
      obtain ⟨v, f, ej, r, m⟩ := hold.atSlot e0
      exact ⟨v, ej, .inl (q v H F (Stp.refl fun _ m => m) (hold.addP (r.nil_of p)))⟩
    · cases e1 : ownD d with
      | none =>
        rw [show xI j w = .bad by unfold xI; rw [e0]; dsimp only; rw [if_neg p, e1]] at q
        exact q.elim
      | some xs =>
        have e2 := ownD_some e1
        subst e2
        by_cases c : pls xs = true
        · rw [show xI j w = .ok (.lst xs) (w.set j (some (.lst xs))) by unfold xI; rw [e0]; dsimp only; rw [if_neg p, e1]; exact if_pos c] at q
          obtain ⟨a, us, ej, ha, hx⟩ := hold_ice hold e0 c
          refine ⟨_, ej, .inr ⟨a, _, ha, trivial, fun od => ?_⟩⟩
          obtain ⟨F', h', sub, st⟩ := hx od
          exact q _ _ F' st h'
        · rw [show xI j w = .bad by unfold xI; rw [e0]; dsimp only; rw [if_neg p, e1]; exact if_neg c] at q
          exact q.elim
end

/-! ### slices -/
def cutD (xs : List D) (lo hi : Option Int) : List D := (xs.drop (HT.sIx xs.length 0 lo)).take (HT.sIx xs.length xs.length hi - HT.sIx xs.length 0 lo)
def dSl (d : D) (lo hi : Option Int) : Option D := match d with
  | .tup xs => if pls xs = true then some (.tup (cutD xs lo hi)) else none
  | .lst xs => if pls xs = true then some (.own (cutD xs lo hi)) else none
  | .own xs => if pls xs = true then some (.own (cutD xs lo hi)) else none
  | .str z => if z.length ≤ sizeLine then some (.str (cutS z lo hi)) else none
  | _ => none
def rSlX (K : PySem.W.Frag) : V → Option Int → Option Int → Hp → VK → Prop := fun x lo hi H Q => rSlL K x lo hi H Q ∨ (rSlA K x lo hi H Q ∨ rSlS x lo hi H Q)
theorem sl_X {X : Cx} : SlR X (rSlX X.K) := sl_list.or (sl_tupA.or sl_str)
section
variable {K : PySem.W.Frag} {H : Hp}
theorem RVs.drop' : ∀ {ds : List D} {vs : List V} (n : Nat), RVs K H ds vs [] → RVs K H (ds.drop n) (vs.drop n) []
  | [], vs, n, h => by
    rw [h.1]
    cases n <;> exact ⟨rfl, rfl⟩
  | d :: ds, vs, 0, h => h
  | d :: ds, vs, n + 1, h => by
    obtain ⟨v, r, f, g, e, q, t, e2⟩ := h
    have e4 : g = [] := (List.append_eq_nil_iff.mp e2.symm).2
    subst e; subst e4
    exact RVs.drop' n t
theorem RVs.take' : ∀ {ds : List D} {vs : List V} (n : Nat), RVs K H ds vs [] → RVs K H (ds.take n) (vs.take n) []
  | [], vs, n, h => by
    rw [h.1]
    cases n <;> exact ⟨rfl, rfl⟩
  | d :: ds, vs, 0, h => ⟨rfl, rfl⟩
  | d :: ds, vs, n + 1, h => by
    obtain ⟨v, r, f, g, e, q, t, e2⟩ := h
    obtain ⟨e3, e4⟩ := List.append_eq_nil_iff.mp e2.symm
    subst e; subst e3; subst e4
    exact ⟨v, r.take n, [], [], rfl, q, RVs.take' n t, rfl⟩
theorem cut_rv {xs : List D} {vs : List V} {lo hi : Option Int} (r : RVs K H xs vs []) : RVs K H (cutD xs lo hi) (cutV vs lo hi) [] := by
  unfold cutD cutV
  rw [r.length]
  exact (r.drop' _).take' _
theorem cut_whole {xs : List D} {lo hi : Option Int} (h : HT.sIx xs.length 0 lo = 0 ∧ HT.sIx xs.length xs.length hi = xs.length) : cutD xs lo hi = xs := by
  unfold cutD
  rw [h.1, h.2]
  simp
theorem ro_sl {x : V} {d z : D} {f : List Addr} {lo hi : Option Int} {Q : VK} (r : RV K H d x f) (e : dSl d lo hi = some z) (q : ∀ v H', NewV K H H' z v → Q v H') : rSlX K x lo hi H Q := by
  cases d with
  | tup xs =>
    replace e : (if pls xs = true then some (D.tup (cutD xs lo hi)) else none) = some z := e
    by_cases c : pls xs = true
    · rw [if_pos c] at e
      cases e
      obtain ⟨a, vs, ea, qa, ra⟩ := r
      have r0 := ra.nil_of c
      refine .inr (.inl ⟨a, vs, ea, qa, fun h => ?_, fun h p n => q _ _ (new_tup (cut_rv r0) n)⟩)
      rw [← r0.length] at h
      rw [cut_whole h] at q
      exact q _ _ (.plain ⟨a, vs, rfl, qa, r0⟩)
    · rw [if_neg c] at e; cases e
  | lst xs =>
    replace e : (if pls xs = true then some (D.own (cutD xs lo hi)) else none) = some z := e
    by_cases c : pls xs = true
    · rw [if_pos c] at e
      cases e
      obtain ⟨a, vs, ea, qa, ra, _⟩ := r
      exact .inl ⟨a, vs, ea, qa.sq, fun p n => q _ _ (new_own (cut_rv ra) n)⟩
    · rw [if_neg c] at e; cases e
  | own xs =>
    replace e : (if pls xs = true then some (D.own (cutD xs lo hi)) else none) = some z := e
    by_cases c : pls xs = true
    · rw [if_pos c] at e
      cases e
      obtain ⟨a, vs, g, ea, qa, ra, _⟩ := r
      exact .inl ⟨a, vs, ea, .of qa, fun p n => q _ _ (new_own (cut_rv (ra.nil_of c)) n)⟩
    · rw [if_neg c] at e; cases e
  | str y =>
    replace e : (if y.length ≤ sizeLine then some (D.str (cutS y lo hi)) else none) = some z := e
    by_cases c : y.length ≤ sizeLine
    · rw [if_pos c] at e
      cases e
      exact .inr (.inr ⟨y, r.1, c, q _ _ (.plain ⟨rfl, rfl⟩)⟩)
    · rw [if_neg c] at e; cases e
  | non => cases e
  | bl b => cases e
  | int b => cases e
end
def intD : D → Option Int
  | .int i => some i
  | _ => none
theorem intD_some {d : D} {i : Int} (h : intD d = some i) : d = .int i := by
  cases d with
  | int k => cases h; rfl
  | non => cases h
  | bl b => cases h
  | str b => cases h
  | tup b => cases h
  | lst b => cases h
  | own b => cases h
def backO (o : Option Int) (w : Ev) : Rs (Option Int) := match o with
  | some i => .ok (some i) w
  | none => .bad
@[simp] theorem backO_some (i : Int) (w : Ev) : backO (some i) w = .ok (some i) w := rfl
@[simp] theorem backO_none (w : Ev) : backO none w = .bad := rfl
def bN : PM (Option Int) := fun w => .ok none w
def bS (f : PM D) : PM (Option Int) := fun w => (f w).bind fun d w1 => backO (intD d) w1
def xSlg (f : PM D) (l u : PM (Option Int)) : PM D := fun w => (f w).bind fun d w1 => (l w1).bind fun lo w2 => (u w2).bind fun hi w3 => back (dSl d lo hi) w3
def xSlv (j : Nat) (l u : PM (Option Int)) : PM D := fun w => match slot w j with
  | some _ => (l w).bind fun lo w2 => (u w2).bind fun hi w3 => back ((slot w3 j).bind fun d => dSl d lo hi) w3
  | none => .bad
def tO (K : PySem.W.Frag) (mg : Str → Option Value) (Eh : WX) (f : PM (Option Int)) : TO := fun s H Q => ∃ w F, Hold K H w s [] [] F ∧ Po K mg Eh H F s (f w) fun o w' => ∀ H' F', Stp F H F' H' → Hold K H' w' s [] [] F' → Q o H'
section
variable {X : Cx} {Eh : WX} {s : L2.St} {H H1 : Hp} {F F1 : List Addr} {β : Type}
theorem tO_run {K : PySem.W.Frag} {mg : Str → Option Value} {f : PM (Option Int)} {k : Option Int → Ev → Rs β} {Q' : β → Ev → Prop} {R : Option Int → Hp → Prop} {w1 : Ev} {ds : List D} {vs : List V}
    (hold : Hold K H1 w1 s ds vs F1) (st : Stp F H F1 H1) (h : Po K mg Eh H F s ((f w1).bind k) Q')
    (c : ∀ o w2 H2 F2, f w1 = .ok o w2 → Stp F H F2 H2 → Hold K H2 w2 s ds vs F2 → Po K mg Eh H F s (k o w2) Q' → R o H2) : tO K mg Eh f s H1 R := by
  obtain ⟨F0, h0, sub, fr⟩ := hold.frame
  refine ⟨w1, F0, h0, ?_⟩
  cases e : f w1 with
  | ok d w2 =>
    rw [e] at h
    intro H' F' st' h'
    obtain ⟨F2, h2, st2⟩ := fr st' h'
    rw [List.append_nil, List.append_nil] at h2
    exact c d w2 H' F2 e (st.trans st2) h2 h
  | ex cc fs w2 =>
    rw [e] at h
    intro cls od H' F' st' h' x
    exact h cls od H' F' (st.trans (st'.mono sub)) h' x
  | bad => rw [e] at h; exact h
theorem _root_.L2.PO.imp {X : Cx} {e : Option Expr} {t t' : TO} (h : PO X e t) (i : ∀ s H Q, t' s H Q → t s H Q) : PO X e t' := ⟨fun pins s σ H Q I q => h.run pins s σ H Q I (i _ _ _ q)⟩
theorem po_n : PO X none (tO X.K X.mg Eh bN) := po_none.imp fun s H Q ⟨w, F, hold, q⟩ => q H F (Stp.refl fun _ m => m) hold
theorem po_s {e : Expr} {f : PM D} (h : PE X e (tP X.K X.mg Eh f)) : PO X (some e) (tO X.K X.mg Eh (bS f)) := (po_some h).imp fun s H Q ⟨w, F, hold, q⟩ => by
  refine tP_run hold (Stp.refl fun _ m => m) q fun d w2 v H2 F2 e st h2 q2 => ?_
  cases ed : intD d with
  | none => rw [ed] at q2; exact q2.elim
  | some i =>
    rw [ed] at q2
    have e2 := intD_some ed
    subst e2
    obtain ⟨fx, rx, _⟩ := Hold.one h2
    obtain ⟨F3, h3, sub⟩ := h2.drop0
    exact ⟨i, rx.1, q2 H2 F3 (st.trans (Stp.refl sub)) h3⟩
theorem sl_g {e : Expr} {lo hi : Option Expr} {p2 pos : Pos} {f : PM D} {l u : PM (Option Int)} (he : PE X e (tP X.K X.mg Eh f)) (hl : PO X lo (tO X.K X.mg Eh l)) (hu : PO X hi (tO X.K X.mg Eh u)) : PE X (.Subscript e (.Slice lo hi none p2) pos) (tP X.K X.mg Eh (xSlg f l u)) :=
  (pe_slice sl_X he hl hu).imp fun s H Q ⟨w, F, hold, q⟩ => by
    refine tP_run hold (Stp.refl fun _ m => m) q fun d w2 v H2 F2 e st h2 q2 => ?_
    refine tO_run h2 st q2 fun lo w3 H3 F3 e3 st3 h3 q3 => ?_
    refine tO_run h3 st3 q3 fun hi w4 H4 F4 e4 st4 h4 q4 => ?_
    obtain ⟨z, hz, q5⟩ := back_po q4
    obtain ⟨fx, rx, _⟩ := Hold.one h4
    exact ro_sl rx hz fun v H' n => fin_new q5 st4 h4 n
theorem sl_v {e : Expr} {lo hi : Option Expr} {p2 pos : Pos} {j : Nat} {l u : PM (Option Int)} (he : PE X e (tV X.K j)) (hl : PO X lo (tO X.K X.mg Eh l)) (hu : PO X hi (tO X.K X.mg Eh u)) : PE X (.Subscript e (.Slice lo hi none p2) pos) (tP X.K X.mg Eh (xSlv j l u)) :=
  (pe_slice sl_X he hl hu).imp fun s H Q ⟨w, F, hold, q⟩ => by
    unfold xSlv at q
    cases e0 : slot w j with
    | none => rw [e0] at q; exact q.elim
    | some d0 =>
      rw [e0] at q
      refine tV_run hold e0 fun v f ej _ _ => ?_
      refine tO_run hold (Stp.refl fun _ m => m) q fun lo w3 H3 F3 e3 st3 h3 q3 => ?_
      refine tO_run h3 st3 q3 fun hi w4 H4 F4 e4 st4 h4 q4 => ?_
      obtain ⟨z, hz, q5⟩ := back_po q4
      obtain ⟨d, hd, hz⟩ := Option.bind_eq_some_iff.mp hz
      obtain ⟨v2, f2, ej2, r2, _⟩ := h4.atSlot hd
      rw [ej] at ej2
      cases ej2
      exact ro_sl r2 hz fun v H' n => fin_new q5 st4 h4 n

/-! ### list(range(..)), tuple(range(..)) -/
def dRng (n : D) : Option D := match n with
  | .int n => if rngC n = true ∧ n.toNat ≤ 16777216 then some (.own (rngD n.toNat)) else none
  | _ => none
def xRngL (f : PM D) : PM D := fun w => (f w).bind fun d w1 => back (dRng d) w1

/-! ### x op= e, ints -/
def sAug (i : Nat) (op : D → D → Option D) (f : PM D) : PM Fl := fun w => match slot w i with
  | some d0 => if pl d0 = true then (f w).bind fun d w1 => match op d0 d with
      | some z => backW (setE w1 i z)
      | none => .bad
    else .bad
  | none => .bad
theorem ss_aug {i : Nat} {x : Str} {e : Expr} {op : Operator} {ti : TIp} {dd : D → D → Option D} {f : PM D} {pos pos' : Pos} (ho : PIp X op ti) (hr : Ro2 X.K ti dd) (hN : X.N.Nodup) (hi : X.N[i]? = some x) (hx : Loc X.env.scope x) (he : PE X e (tP X.K X.mg Eh f)) (hf : X.fn x = true ∨ X.env.scope.names.lookup x = some .local := by first | exact .inl rfl | exact .inr rfl | assumption) :
    PS X (.AugAssign (.Name x pos') op e pos) (tS X.K X.mg Eh [i] (sAug i dd f)) := (ps_aug hN hi hx he ho hf).imp fun E s H ⟨w, F, hold, q⟩ => by
  unfold sAug at q
  cases e0 : slot w i with
  | none => rw [e0] at q; exact q.elim
  | some d0 =>
    rw [e0] at q
    by_cases p : pl d0 = true
    · dsimp only at q
      rw [if_pos p] at q
      obtain ⟨v0, f0, ej, r0, _⟩ := hold.atSlot e0
      refine ⟨v0, ej, ?_⟩
      have hold2 := hold.addP (r0.nil_of p)
      refine tP_runS hold2 (Stp.refl fun _ m => m) q fun d w2 v H2 F2 e st h2 q2 => ?_
      obtain ⟨fx, fy, rx, ry, _, _⟩ := Hold.two h2
      cases ez : dd d0 d with
      | none => rw [ez] at q2; exact q2.elim
      | some z =>
        rw [ez] at q2
        refine hr H2 v0 v d0 d fx fy z _ rx ry ez fun u H' n => ?_
        obtain ⟨k, fz, rz, ndz, fr⟩ := n
        obtain ⟨F3, h3, sub⟩ := h2.drop0
        have hm := h3.mut
        obtain ⟨ft, fe, k1, k2, pp, nd⟩ := h3
        have e1 : ft = [] := k1.2
        subst e1
        have hh : Hold X.K H' w2 s [z] [u] (fz ++ fe) := ⟨fz, fe, RVs.one rz, k2.kp k (fun _ z => nomatch z) (fun _ _ z => nomatch z), .refl _, List.nodup_append.mpr ⟨ndz, pp.nodup_iff.mp nd, fun a m b m2 e => by
          subst e
          have := hm a (pp.mem_iff.mpr m2)
          rw [fr a m] at this
          exact this⟩⟩
        exact set_po List.mem_cons_self (st.trans (F1 := F2) ⟨fun a o e n => k a o e (fun z => nomatch z), fun a m => (List.mem_append.mp m).elim (fun z => .inr (fr a z)) fun z => .inl (sub a (pp.mem_iff.mpr z))⟩) (.refl _ _) hh q2
    · dsimp only at q
      rw [if_neg p] at q; exact q.elim
theorem ro_ip {K : PySem.W.Frag} {g : Int → Int → Int} : Ro2 K (ipI g) (dI fun i j => some (.int (g i j))) := fun H x y dx dy fx fy z Q rx ry e q => by
  obtain ⟨i, j, rfl, rfl, e⟩ := dI_some e
  cases e
  exact ⟨i, j, rx.1, ry.1, q _ _ (.plain ⟨rfl, rfl⟩)⟩
end
end Pm

set_option autoImplicit false
namespace Pm
open PySem PySem.Spec L2
section
variable {K : PySem.W.Frag} {H : Hp}
theorem rvs_ints {H : Hp} (g : Nat → Int) : ∀ l : List Nat, RVs K H (l.map fun i => D.int (g i)) (l.map fun i => V.int (g i)) []
  | [] => ⟨rfl, rfl⟩
  | i :: l => ⟨.int (g i), _, [], [], rfl, ⟨rfl, rfl⟩, rvs_ints g l, rfl⟩
theorem rg_rv {n : Int} : RVs K H (rngD n.toNat) (rgV 0 n) [] := by
  unfold rngD rgV
  rw [Int.sub_zero]
  have e : (fun i : Nat => V.int (0 + (i : Int))) = fun i : Nat => V.int (i : Int) := by
    funext i; rw [Int.zero_add]
  rw [e]
  exact rvs_ints (fun i => (i : Int)) _
end
section
variable {X : Cx} {Eh : WX}
theorem pp_rngL {a : Expr} {p p2 pos pos2 : Pos} {f : PM D} (hc : X.calm = true) (hg : Gl X "list") (hm : X.mg "list" = none) (hg2 : Gl X "range") (hm2 : X.mg "range" = none) (ha : PE X a (tP X.K X.mg Eh f))
    (na : starEach [a] X.env = (false, eval a X.env) :: starEach [] X.env := by rfl) (nb : starEach [.Call (.Name "range" p2) [a] [] pos2] X.env = (false, eval (.Call (.Name "range" p2) [a] [] pos2) X.env) :: starEach [] X.env := by rfl) :
    PE X (.Call (.Name "list" p) [.Call (.Name "range" p2) [a] [] pos2] [] pos) (tP X.K X.mg Eh (xRngL f)) :=
  (pe_listRg hc hg hm (prg_1 hg2 hm2 ha na) nb).imp fun s H Q ⟨w, F, hold, q⟩ => by
    refine tP_run hold (Stp.refl fun _ m => m) q fun d w2 v H2 F2 e st h2 q2 => ?_
    obtain ⟨z, hz, q3⟩ := back_po q2
    obtain ⟨fx, rx, _⟩ := Hold.one h2
    cases d with
    | int n =>
      replace hz : (if rngC n = true ∧ n.toNat ≤ 16777216 then some (D.own (rngD n.toNat)) else none) = some z := hz
      by_cases c : rngC n = true ∧ n.toNat ≤ 16777216
      · rw [if_pos c] at hz
        cases hz
        have c1 : -(2 ^ 62) ≤ n ∧ n < 2 ^ 62 := of_decide_eq_true c.1
        exact ⟨n, rx.1, ⟨by omega, by omega, c1.1, c1.2, by rw [Int.sub_zero]; exact c.2⟩, fun q' n' => fin_new q3 st h2 (new_own rg_rv n')⟩
      · rw [if_neg c] at hz; cases hz
    | non => cases hz
    | bl b => cases hz
    | str b => cases hz
    | tup b => cases hz
    | lst b => cases hz
    | own b => cases hz
/-- an argument that a def changes: a slot's datum, taken once the arguments behind it are there -/
def xZ (j : Nat) (g : PM (List D)) : PM (List D) := fun w => match slot w j with
  | some _ => (g w).bind fun ds w1 => (xK j w1).bind fun d w2 => .ok (d :: ds) w2
  | none => .bad
theorem palz {e : Expr} {es : List Expr} {ks : List (Option Nat)} {j : Nat} {g : PM (List D)} (h : PE X e (tVar j)) (hr : PA X es (tAL X.K X.mg Eh ks g)) (hs : starEach (e :: es) X.env = (false, eval e X.env) :: starEach es X.env := by rfl) : PA X (e :: es) (tAL X.K X.mg Eh (some j :: ks) (xZ j g)) :=
  (pa_cons h hr hs).imp fun s H Q ⟨w, F, hold, q⟩ => by
    unfold xZ at q
    cases e0 : slot w j with
    | none => rw [e0] at q; exact q.elim
    | some d0 =>
      rw [e0] at q
      obtain ⟨v, f, ej, r, m⟩ := hold.atSlot e0
      refine ⟨v, ej, ?_⟩
      refine tAL_run hold (Stp.refl fun _ m => m) q fun ds w2 us H2 F2 e st h2 l q2 => ?_
      replace h2 : Hold X.K H2 w2 s ds us F2 := h2
      cases e1 : slot w2 j with
      | none => rw [show xK j w2 = .bad by unfold xK; rw [e1]] at q2; exact q2.elim
      | some d =>
        obtain ⟨v2, ej2, h3⟩ := h2.takeS e1
        rw [ej] at ej2
        cases ej2
        by_cases p : pl d = true
        · rw [show xK j w2 = .ok d w2 by unfold xK; rw [e1]; exact if_pos p] at q2
          obtain ⟨v3, f3, ej3, r3, _⟩ := h2.atSlot e1
          rw [ej] at ej3
          cases ej3
          exact q2 (v :: us) H2 F2 st (h2.addP (r3.nil_of p)) (lnk_cons (fun i z => by cases z; exact ej) l)
        · rw [show xK j w2 = .ok d (w2.set j none) by unfold xK; rw [e1]; exact if_neg p] at q2
          exact q2 (v :: us) H2 F2 st h3 (lnk_cons (fun i z => by cases z; exact ej) l)
/-! ### a def of the text, where it lies -/
structure Dn (K : PySem.W.Frag) (mg : Str → Option Value) (x : Str) (st : Stmt) (ps : List Str) where
  f : Addr
  fd : FuncData
  F : Fun K x x st f fd
  b : Binds K fd ps []
  g : mg x = some (.ref f)
end
end Pm

set_option autoImplicit false
namespace Pm
open PySem PySem.Spec L2
/-! ### sorted, over ints in a list or a tuple -/
def rSrt (K : PySem.W.Frag) : List V → Hp → VK → Prop := fun vs H Q => ∃ (a : Addr) (ns : List Int), vs = [V.ref a] ∧ (SqL K H a (ns.map V.int) ∨ SqT K H a (ns.map V.int)) ∧
  ∀ (ms : List Int) (p : Addr), ms.Perm ns → ms.Pairwise (· ≤ ·) → H p = none → Q (.ref p) (upd H p (.lst (ms.map V.int)))
theorem vints : ∀ {vs : List Value} {ns : List Int}, PyProof.Rows.IntsAre vs ns → Vals (ns.map V.int) vs
  | _, _, h => vals_of_ints h
theorem cr_srt {X : Cx} : CallR X (.builtin "sorted") (rSrt X.K) := by
  intro pins s σ H vs us Q I r ⟨a, ns, ev, hq, q⟩
  subst ev
  obtain ⟨u, eu, rx⟩ := vals1 r
  subst eu
  cases rx
  have main : ∀ (its : List Value) (T : String) (o : Obj) (n : Nat), (T = "list" ∨ T = "tuple") → Vals (ns.map V.int) its → (ns.map V.int).length ≤ sizeLine → s.heap.get? a = some o → o.cls = .type T → o.data = .seq its.toArray n →
      wpAny (model X.prog X.w) X.A (call (.builtin "sorted") [.ref a]) (EP X pins σ Q) X.xe s := fun its T o n hT rv hz ho hc hd => by
    have hi := rv.ints
    have hzl : its.length ≤ sizeLine := by rw [← rv.length]; exact hz
    refine Calls.call_function_entry PyProof.Rows.kind_sorted PyProof.Rows.plain_sorted PyProof.Rows.entry_sorted (PyProof.Rows.args_sorted1 _) ?entry
    unfold Builtin.«sorted»; refine wpAny_bind (m := checkCount "sorted" 1 1 _) (wpAny_pure ?kept)
    refine wpAny_bind (wpAny_collect_seq a hT ho hc hd (fun g kp => ?got) (by rw [List.size_toArray]; exact hzl))
    have I1 : Inv X pins σ H { s with heap := g } := I.kept (t' := s.toks) kp
    refine wpAny_bind (wpAny_newList ?laid hzl)
    have hoL : (g.push (PyProof.Rows.seqObj "list" its.toArray 0)).get? g.objs.size = some (PyProof.Rows.seqObj "list" its.toArray 0) := Heap.get?_push_size _ rfl
    show wpAny _ _ _ _ _ { s with heap := g.push (PyProof.Rows.seqObj "list" its.toArray 0) }
    refine wpAny_bind (wpAny_holding (wpAny_call_entry PyProof.Rows.slot_list_sort ⟨_, hoL, rfl⟩ PyProof.Rows.entry_list_sort
      (SrtO.list_sort_ord (s := { s with heap := g.push (PyProof.Rows.seqObj "list" its.toArray 0) }) SrtO.swo_int hoL hzl (fun h2 => SrtO.ints_sortable hi h2) fun out h1 h2 => ⟨_, rfl, ?sorted⟩) (PyProof.Rows.args_list_sort _)))
    obtain ⟨k1, k2, k3⟩ := SrtO.ints_out hi h1 h2
    obtain ⟨e1, he1⟩ := PyProof.Rows.sortedHeap_at (vs := its) (out := out.toArray) hoL
    have hlen : ((out.map SrtO.iv).map V.int).length ≤ sizeLine := by
      rw [List.length_map, k2.length_eq, ← List.length_map (f := V.int)]; exact hz
    refine wpAny_pure ⟨_, rfl, .ref g.objs.size, upd H g.objs.size (.lst ((out.map SrtO.iv).map V.int)), I1.laid (t' := s.toks) (fun b u e => ?_) (Nat.le_refl _) ⟨hlen, out, e1, vals_of_ints k1, he1⟩, rfl, q _ _ k2 k3 (I1.hok.fresh (Nat.le_refl _))⟩
    have hb : b < g.objs.size := Heap.lt_size e
    rw [PyProof.Rows.sortedHeap_old (Nat.ne_of_lt hb) (by rw [PyProof.Rows.size_push']; exact Nat.lt_succ_of_lt hb)]
    exact Heap.get?_push_of_some _ e
  rcases hq with hq | hq
  · obtain ⟨its, rv, hl, hz⟩ := I.list hq
    obtain ⟨o, ho, hc, n, hd⟩ := hl.isList
    exact main its "list" o n (.inl rfl) rv hz ho hc hd
  · obtain ⟨its, rv, hl, hz⟩ := I.tuple hq
    obtain ⟨o, ho, hc, n, hd⟩ := hl
    exact main its "tuple" o n (.inr rfl) rv hz ho hc hd
def sortI (ns : List Int) : List Int := ns.mergeSort fun a b => decide (a ≤ b)
theorem sortI_perm (ns : List Int) : (sortI ns).Perm ns := List.mergeSort_perm _ _
theorem sortI_pw (ns : List Int) : (sortI ns).Pairwise (· ≤ ·) := by
  have h := List.pairwise_mergeSort (le := fun a b : Int => decide (a ≤ b)) (fun a b c h1 h2 => by simp at h1 h2 ⊢; omega) (fun a b => by simp; omega) ns
  exact h.imp fun h => of_decide_eq_true h
theorem sortI_eq {ms ns : List Int} (h : ms.Perm ns) (h2 : ms.Pairwise (· ≤ ·)) : ms = sortI ns :=
  List.Perm.eq_of_pairwise (le := (· ≤ ·)) (fun a b _ _ x y => Int.le_antisymm x y) h2 (sortI_pw ns) (h.trans (sortI_perm ns).symm)
def intsD : List D → Option (List Int)
  | [] => some []
  | .int i :: r => (intsD r).map (i :: ·)
  | _ => none
theorem intsD_some : ∀ {ds : List D} {ns : List Int}, intsD ds = some ns → ds = ns.map .int
  | [], _, h => by cases h; rfl
  | .int i :: r, ns, h => by
    obtain ⟨ms, h1, h2⟩ := Option.map_eq_some_iff.mp (show (intsD r).map (i :: ·) = some ns from h)
    rw [← h2, intsD_some h1]; rfl
  | .non :: _, _, h => by cases h
  | .bl _ :: _, _, h => by cases h
  | .str _ :: _, _, h => by cases h
  | .tup _ :: _, _, h => by cases h
  | .lst _ :: _, _, h => by cases h
  | .own _ :: _, _, h => by cases h
@[simp] theorem intsD_ints : ∀ ns : List Int, intsD (ns.map .int) = some ns
  | [] => rfl
  | i :: ns => by
    show (intsD (ns.map .int)).map (i :: ·) = _
    rw [intsD_ints ns]; rfl
def dSorted (x : D) : Option D := (seqD x).bind fun xs => (intsD xs).map fun ns => .own ((sortI ns).map .int)
theorem rvs_intsV {K : PySem.W.Frag} {H : Hp} : ∀ {ns : List Int} {vs : List V} {f : List Addr}, RVs K H (ns.map .int) vs f → vs = ns.map V.int
  | [], vs, f, h => h.1
  | i :: ns, vs, f, h => by
    obtain ⟨v, r, f1, g, e, q, t, _⟩ := h
    subst e
    rw [q.1, rvs_intsV t]; rfl
theorem rvs_ofInts {K : PySem.W.Frag} {H : Hp} : ∀ ns : List Int, RVs K H (ns.map .int) (ns.map V.int) []
  | [] => ⟨rfl, rfl⟩
  | i :: ns => ⟨.int i, _, [], [], rfl, ⟨rfl, rfl⟩, rvs_ofInts ns, rfl⟩
theorem ro_sorted {K : PySem.W.Frag} : Ro1 K (r1' (rSrt K)) dSorted := fun H x dx fx z Q rx e q => by
  obtain ⟨xs, h1, h2⟩ := Option.bind_eq_some_iff.mp e
  obtain ⟨ns, h3, h4⟩ := Option.map_eq_some_iff.mp h2
  subst h4
  have e3 := intsD_some h3
  subst e3
  obtain ⟨a, vs, g, ea, qa, ra⟩ := seqD_rv rx h1
  subst ea
  have e4 := rvs_intsV ra
  subst e4
  refine ⟨a, ns, rfl, qa, fun ms p pm pw n => ?_⟩
  rw [sortI_eq pm pw]
  exact q _ _ (new_own (rvs_ofInts _) n)
section
variable {X : Cx} {Eh : WX}
def dRngT (d : D) : Option D := (dRng d).bind dTuple
theorem pp_rngT {a : Expr} {p p2 pos pos2 : Pos} {f : PM D} (hc : X.calm = true) (hg : Gl X "tuple") (hm : X.mg "tuple" = none) (hg2 : Gl X "range") (hm2 : X.mg "range" = none) (ha : PE X a (tP X.K X.mg Eh f))
    (na : starEach [a] X.env = (false, eval a X.env) :: starEach [] X.env := by rfl) (nb : starEach [.Call (.Name "range" p2) [a] [] pos2] X.env = (false, eval (.Call (.Name "range" p2) [a] [] pos2) X.env) :: starEach [] X.env := by rfl) :
    PE X (.Call (.Name "tuple" p) [.Call (.Name "range" p2) [a] [] pos2] [] pos) (tP X.K X.mg Eh (x1g dRngT f)) :=
  (pe_tupRg hc hg hm (prg_1 hg2 hm2 ha na) nb).imp fun s H Q ⟨w, F, hold, q⟩ => by
    refine tP_run hold (Stp.refl fun _ m => m) q fun d w2 v H2 F2 e st h2 q2 => ?_
    obtain ⟨z, hz, q3⟩ := back_po q2
    obtain ⟨fx, rx, _⟩ := Hold.one h2
    obtain ⟨y, hy, hz⟩ := Option.bind_eq_some_iff.mp hz
    cases d with
    | int n =>
      replace hy : (if rngC n = true ∧ n.toNat ≤ 16777216 then some (D.own (rngD n.toNat)) else none) = some y := hy
      by_cases c : rngC n = true ∧ n.toNat ≤ 16777216
      · rw [if_pos c] at hy
        cases hy
        replace hz : (if pls (rngD n.toNat) = true then some (D.tup (rngD n.toNat)) else none) = some z := hz
        by_cases c2 : pls (rngD n.toNat) = true
        · rw [if_pos c2] at hz
          cases hz
          have c1 : -(2 ^ 62) ≤ n ∧ n < 2 ^ 62 := of_decide_eq_true c.1
          exact ⟨n, rx.1, ⟨by omega, by omega, c1.1, c1.2, by rw [Int.sub_zero]; exact c.2⟩, fun q' n' => fin_new q3 st h2 (new_tup rg_rv n')⟩
        · rw [if_neg c2] at hz; cases hz
      · rw [if_neg c] at hy; cases hy
    | non => cases hy
    | bl b => cases hy
    | str b => cases hy
    | tup b => cases hy
    | lst b => cases hy
    | own b => cases hy
end
/-! ### calls, where what a changed parameter stands for may be no slot -/
def xCal (np : Nat) (js : List (Option Nat)) (m : List D → Rd) (f : PM (List D)) : PM D := fun w => (f w).bind fun ds w1 => if ds.length = np then match m ds with
    | .ok d outs => .ok d (putB js outs w1)
    | _ => .bad
  else .bad
section
variable {X : Cx} {Eh : WX}
theorem cal_imp {s : L2.St} {H : Hp} {K : PySem.W.Frag} {mg : Str → Option Value} {np : Nat} {io : List Nat} {js : List (Option Nat)} {ks : List (Option Nat)} {m : List D → Rd} {f : PM (List D)} {Q : VK} {E : XK} (X : Cx) (hK : X.K = K) (hM : X.mg = mg) (hks : js = io.map fun k => (ks[k]?).getD none) (hio : ∀ k ∈ io, k < np)
    (h : tP K mg Eh (xCal np js m f) s H Q) : tAL K mg Eh ks f s H fun vs H1 => spP K np io m (vs ++ []) H1 Q E := by
  subst hK; subst hM
  obtain ⟨w, F, hold, q⟩ := h
  unfold xCal at q
  refine tAL_run hold (Stp.refl fun _ m => m) q fun ds w2 us H2 F2 e st h2 l q2 => ?_
  replace h2 : Hold X.K H2 w2 s ds us F2 := h2
  by_cases c : ds.length = np
  · rw [if_pos c] at q2
    rw [List.append_nil]
    obtain ⟨ft, rt, nd, fr⟩ := h2.call
    refine ⟨by rw [← hold_len h2]; exact c, ds, ft, rt, nd, ?_⟩
    cases em : m ds with
    | bad => rw [em] at q2; exact q2
    | ex _ _ _ => rw [em] at q2; exact q2
    | ok d outs =>
      rw [em] at q2
      intro v H' F' st' r nd'
      obtain ⟨F3, h3, st3⟩ := fr st' r nd'
      have h4 := Hold.comm (ds := [d]) (vs := [v]) h3 rfl
      have hl : outs.length = (io.map fun k => us.getD k .non).length := by
        have := r.length
        simpa using this
      have lk : Lnk s js (io.map fun k => us.getD k .non) := fun i j u e1 e2 => by
        rw [hks, List.getElem?_map] at e1
        rw [List.getElem?_map] at e2
        obtain ⟨k, e3, e4⟩ := Option.map_eq_some_iff.mp e1
        rw [e3] at e2
        have e5 : us.getD k .non = u := by simpa using e2
        have e6 : ks[k]? = some (some j) := by
          cases z : ks[k]? with
          | none => rw [z] at e4; cases e4
          | some o => rw [z] at e4; exact congrArg some e4
        have hkl : k < us.length := by
          rw [← hold_len h2, c]
          exact hio k (List.mem_of_getElem? e3)
        exact l k j u e6 (by rw [← e5, List.getD_eq_getElem?_getD, List.getElem?_eq_getElem hkl]; rfl)
      obtain ⟨F5, h5, sub5⟩ := Hold.putL2 h4 hl lk
      exact q2 v H' F5 ((st.trans st3).trans (Stp.refl sub5)) h5
  · rw [if_neg c] at q2; exact q2.elim
theorem pp_cal {k : Nat} {f : Addr} {fd : FuncData} {ps : List Str} {io : List Nat} {js : List (Option Nat)} {ks : List (Option Nat)} {m : List D → Rd} {g : PM (List D)} {x : Str} {p pos : Pos} {e : Expr} {es : List Expr} (np : Nat) (F : FnOk X.prog X.w X.K X.mg X.base CX0 k f fd ps (spP X.K np io m)) (hr : Room k X.A) (hg : Gl X x) (hm : X.mg x = some (.ref f)) (hk : PySem.W.keepIn X.K (.ref f) = true) (hb : Binds X.K fd ps [])
    (ha : PA X (e :: es) (tAL X.K X.mg Eh ks g)) (hks : js = io.map fun k => (ks[k]?).getD none := by rfl) (hio : ∀ k ∈ io, k < np := by decide) (hdb : (x == ("__debug__" : Str)) = false := by decide) (he : starEach (e :: es) X.env = (false, eval e X.env) :: starEach es X.env := by rfl) (hpl : (backTo pos (starEach es X.env)).any (·.1) = false := by rfl) :
    PE X (.Call (.Name x p) (e :: es) [] pos) (tP X.K X.mg Eh (xCal np js m g)) :=
  (pe_call F hr hg hm hk hb .nil pass0 ha hdb he hpl).imp fun s H Q h => cal_imp X rfl rfl hks hio h
end
end Pm

set_option autoImplicit false
namespace Pm
open PySem PySem.Spec L2
/-! ### comprehensions of two clauses -/
def cmpL2 (tg : Tgt) (c : PM Bool) (ks1 : List (Option Nat)) (it1 : PM (List D × List D)) (tg1 : Tgt) (c1 : PM Bool) (elt : PM D) (vs vs1 : List Nat) : List D → List D → PM (List D)
  | [], acc => fun w => .ok acc w
  | d :: ds, acc => fun w => match setT tg d (wipeE w vs) with
    | some w1 => (c w1).bindN fun b w2 => if b = true then (it1 w2).bindN fun p w3 => (cmpL tg1 c1 elt vs1 p.1 acc w3).bindN fun acc2 w4 => cmpL2 tg c ks1 it1 tg1 c1 elt vs vs1 ds acc2 (putB ks1 p.2 (wipeE w4 vs1))
      else cmpL2 tg c ks1 it1 tg1 c1 elt vs vs1 ds acc w2
    | none => .bad
def xComp2 (ks : List (Option Nat)) (it : PM (List D × List D)) (tg : Tgt) (c : PM Bool) (ks1 : List (Option Nat)) (it1 : PM (List D × List D)) (tg1 : Tgt) (c1 : PM Bool) (elt : PM D) (vs vs1 : List Nat) : PM D := fun w => (it w).bind fun p w1 => (cmpL2 tg c ks1 it1 tg1 c1 elt vs vs1 p.1 [] w1).bindN fun acc w2 => Rs.ok (D.own acc) (putB ks p.2 (wipeE w2 vs))
section
variable {K : PySem.W.Frag} {mg : Str → Option Value} {s : L2.St} {H : Hp} {F : List Addr} {Eh : WX}
theorem tI_runN {f : PM (List D × List D)} {ks : List (Option Nat)} {R : It → Hp → Prop} {H1 : Hp} {F1 : List Addr} {w1 w2 : Ev} {p : List D × List D} {ds : List D} {vs : List V} (hold : Hold K H1 w1 s ds vs F1) (e : f w1 = .ok p w2)
    (c : ∀ J H2 F2 tvs, Stp F1 H1 F2 H2 → Hold K H2 w2 s (ds ++ p.2) (vs ++ tvs) F2 → Src K J p.1 p.2 tvs → Lnk s ks tvs → R J H2) : tI K mg Eh ks f s H1 R := by
  obtain ⟨F0, h0, sub, fr⟩ := hold.frame
  refine ⟨w1, F0, h0, ?_⟩
  rw [e]
  intro J H' F' tvs st' h' src l
  obtain ⟨F2, h2, st2⟩ := fr st' h'
  exact c J H' F2 tvs st2 h2 src l
theorem bindN_ok' {α β : Type} {r : Rs α} {k : α → Ev → Rs β} {b : β} {w : Ev} (h : r.bindN k = .ok b w) : ∃ a w1, r = .ok a w1 ∧ k a w1 = .ok b w := by
  cases r with
  | ok a w1 => exact ⟨a, w1, rfl, h⟩
  | ex _ _ _ => cases h
  | bad => cases h
/-- the inner loop, its list in place -/
theorem cmp_in {g : TG} {tg : Tgt} {c : PM Bool} {elt : PM D} {vs : List Nat} (hg : TgR K g tg) (hv : ∀ i ∈ wrT tg, i ∈ vs) {items tds : List D} {tvs : List V} {J : It} (src : Src K J items tds tvs)
    {Da : Addr} {acc acc2 es : List D} {us : List V} {w w2 : Ev} (hold : Hold K H w s (.own acc :: es) (.ref Da :: us) F) (hl : es.length = us.length) (rT : ∀ H' f, RVs K H' es us f → ∃ f', RVs K H' tds tvs f')
    (q : cmpL tg c elt vs items acc w = .ok acc2 w2) {Nx : Hp → Prop} (fin : ∀ H' F', Stp F H F' H' → Hold K H' (wipeE w2 vs) s (.own acc2 :: es) (.ref Da :: us) F' → Nx H') :
    ∃ W1 : Nat → Nat → Hp → Prop, (∃ m, W1 0 m H) ∧ ∀ j k H', W1 j k H' → (J.stop j H' ∧ Nx H') ∨ (J.go j H' ∧ ∃ Nx1 : Hp → Prop, (∀ H'', Nx1 H'' → ∃ k', k' < k ∧ W1 (j + 1) k' H'') ∧ ∀ x H'', J.yld j H' x H'' → g x (wipe s vs) H'' fun σ3 H5 => wipe σ3 vs = wipe s vs ∧ tT K mg EhN c σ3 H5 fun b H6 =>
      if b = true then tP K mg EhN elt σ3 H6 fun y H7 => ∃ acc, H7 Da = some (.lst acc) ∧ acc.length < sizeLine ∧ Nx1 (upd H7 Da (.lst (acc ++ [y]))) else Nx1 H6) := by
  refine ⟨fun j k H' => k + j = items.length ∧ j ≤ items.length ∧ ∃ w' s' F' a', Stp F H F' H' ∧ wipe s' vs = wipe s vs ∧ Hold K H' w' s' (.own a' :: es) (.ref Da :: us) F' ∧ cmpL tg c elt vs (items.drop j) a' w' = .ok acc2 w2,
    ⟨items.length, by omega, by omega, w, s, F, acc, Stp.refl fun _ m => m, rfl, hold, q⟩, ?_⟩
  rintro j k H' ⟨e1, e2, w', s', F', a', st', ag', h', q'⟩
  obtain ⟨ft, rt⟩ := h'.rvs
  obtain ⟨v0, r0, f0, ft2, e3, rD, rR, e4⟩ := rt
  injection e3 with e5 e6
  subst e5; subst e6
  obtain ⟨f9, r9⟩ := rT H' _ rR
  obtain ⟨F3, h3, h3s, sub3⟩ := h'.turn ag'
  by_cases hi : j < items.length
  · have hd : items[j]? = some items[j] := List.getElem?_eq_getElem hi
    have hdr : items.drop j = items[j] :: items.drop (j + 1) := List.drop_eq_getElem_cons hi
    rw [hdr] at q'
    refine .inr ⟨src.go H' _ j r9 hi, fun H'' => ∃ w3 s3 F4 a3, Stp F H F4 H'' ∧ wipe s3 vs = wipe s vs ∧ Hold K H'' w3 s3 (.own a3 :: es) (.ref Da :: us) F4 ∧ cmpL tg c elt vs (items.drop (j + 1)) a3 w3 = .ok acc2 w2,
      fun H'' hN => ⟨k - 1, by omega, by omega, hi, hN⟩, fun x H'' hy => ?_⟩
    obtain ⟨kp, rx⟩ := src.yld H' _ j _ x H'' r9 hd hy
    rw [cmpL_cons] at q'
    cases et : setT tg items[j] (wipeE w' vs) with
    | none => rw [et] at q'; cases q'
    | some w3 =>
      rw [et] at q'
      dsimp only at q'
      refine hg x (wipe s vs) H'' _ (wipeE w' vs) w3 F3 (.own a' :: es) (.ref Da :: us) items[j] rx (src.pl j _ hd) (hold_kp h3 kp) et fun s3 F4 ag3 sub4 h4 => ?_
      have ew : wipe s3 vs = wipe s vs := by
        refine wipe_ext (by rw [ag3.1, wipe_length]) fun i n => ?_
        rw [ag3.2 i (fun z => n (hv i z)), wipe_get n]
      refine ⟨ew, ?_⟩
      have st4 : Stp F H F4 H'' := ((st'.trans (Stp.refl sub3)).trans (stp_kp kp)).trans (Stp.refl sub4)
      obtain ⟨b, w4, ec, q4⟩ := bindN_ok' q'
      refine tT_runN h4 ec fun H5 F5 st5 h5 => ?_
      cases b with
      | false =>
        rw [if_neg Bool.false_ne_true]
        rw [if_neg Bool.false_ne_true] at q4
        exact ⟨w4, s3, F5, a', st4.trans st5, ew, h5, q4⟩
      | true =>
        rw [if_pos rfl]
        rw [if_pos rfl] at q4
        obtain ⟨d, w5, ee, q5⟩ := bindN_ok' q4
        refine tP_runN h5 ee fun y H6 F6 st6 h6 => ?_
        obtain ⟨us2, hu, hlu, F7, h7, sub7, st7⟩ := Hold.grow h6 hl
        by_cases cl : a'.length < sizeLine
        · rw [if_pos cl] at q5
          exact ⟨us2, hu, by rw [← hlu]; exact cl, w5, s3, F7, a' ++ [d], ((st4.trans st5).trans st6).trans st7, ew, h7, q5⟩
        · rw [if_neg cl] at q5; cases q5
  · have ei : j = items.length := by omega
    subst ei
    refine .inl ⟨src.stop H' _ r9, ?_⟩
    rw [List.drop_length, cmpL_nil] at q'
    cases q'
    exact fin H' F3 (st'.trans (Stp.refl sub3)) h3s
theorem comp2_imp {g g1 : TG} {tg tg1 : Tgt} {c c1 : PM Bool} {elt : PM D} {vs vs1 : List Nat} {ks ks1 : List (Option Nat)} {it it1 : PM (List D × List D)} (hg : TgR K g tg) (hg1 : TgR K g1 tg1) (hv : ∀ i ∈ wrT tg, i ∈ vs) (hv1 : ∀ i ∈ wrT tg1, i ∈ vs1) (hs : ∀ i ∈ vs1, i ∈ vs) {Q : VK}
    (h : tP K mg Eh (xComp2 ks it tg c ks1 it1 tg1 c1 elt vs vs1) s H Q) : tLc2 (tI K mg Eh ks it) g (tT K mg EhN c) (tI K mg EhN ks1 it1) g1 (tT K mg EhN c1) (tP K mg EhN elt) vs vs1 s H Q := by
  obtain ⟨w, F, hold, q⟩ := h
  unfold xComp2 at q
  refine ⟨w, F, hold, ?_⟩
  cases e : it w with
  | bad => rw [e] at q; exact q
  | ex cc fs w1 =>
    rw [e] at q
    exact q
  | ok p w1 =>
    rw [e] at q
    replace q : Po K mg Eh H F s ((cmpL2 tg c ks1 it1 tg1 c1 elt vs vs1 p.1 [] w1).bindN fun acc w2 => Rs.ok (D.own acc) (putB ks p.2 (wipeE w2 vs))) (fun d w' => ∀ v H' F', Stp F H F' H' → Hold K H' w' s [d] [v] F' → Q v H') := q
    intro J H1 F1 tvs st h1 src lnk Da nDa
    have hlen := hold_len h1
    have hnew : Hold K (upd H1 Da (.lst [])) w1 s (.own [] :: p.2) (.ref Da :: tvs) (Da :: F1) := by
      have hm := h1.mut
      obtain ⟨ft, fe, k1, k2, pp, nd⟩ := hold_upd (o := .lst []) h1 nDa
      refine ⟨Da :: ft, fe, ⟨.ref Da, tvs, [Da], ft, rfl, ⟨Da, [], [], rfl, upd_same, ⟨rfl, rfl⟩, rfl⟩, k1, rfl⟩, k2, pp.cons Da, List.nodup_cons.mpr ⟨fun m => ?_, nd⟩⟩
      have := hm Da m
      rw [nDa] at this
      exact this
    have ok : ∃ accE wE, cmpL2 tg c ks1 it1 tg1 c1 elt vs vs1 p.1 [] w1 = .ok accE wE := by
      cases e2 : cmpL2 tg c ks1 it1 tg1 c1 elt vs vs1 p.1 [] w1 with
      | ok a b => exact ⟨a, b, rfl⟩
      | ex _ _ _ => rw [e2] at q; exact q.elim
      | bad => rw [e2] at q; exact q.elim
    obtain ⟨accE, wE, eq⟩ := ok
    rw [eq, Rs.bindN_ok] at q
    replace q : ∀ v H' F', Stp F H F' H' → Hold K H' (putB ks p.2 (wipeE wE vs)) s [.own accE] [v] F' → Q v H' := q
    refine ⟨fun i m H2 => m + i = p.1.length ∧ i ≤ p.1.length ∧ ∃ w2 s2 F2 acc, Stp F H F2 H2 ∧ wipe s2 vs = wipe s vs ∧ Hold K H2 w2 s2 (.own acc :: p.2) (.ref Da :: tvs) F2 ∧ cmpL2 tg c ks1 it1 tg1 c1 elt vs vs1 (p.1.drop i) acc w2 = .ok accE wE,
      ⟨p.1.length, by omega, by omega, w1, s, Da :: F1, [], st.trans (stp_upd' nDa), rfl, hnew, eq⟩, ?_⟩
    rintro i m H2 ⟨e1, e2, w2, s2, F2, acc, st2, ag2, h2, q2⟩
    obtain ⟨ft, rt⟩ := h2.rvs
    obtain ⟨v0, r0, f0, ft2, e3, rD, rT, e4⟩ := rt
    injection e3 with e5 e6
    subst e5; subst e6
    obtain ⟨F3, h3, h3s, sub3⟩ := h2.turn ag2
    by_cases hi : i < p.1.length
    · have hd : p.1[i]? = some p.1[i] := List.getElem?_eq_getElem hi
      have hdr : p.1.drop i = p.1[i] :: p.1.drop (i + 1) := List.drop_eq_getElem_cons hi
      rw [hdr] at q2
      refine .inr ⟨src.go H2 _ i rT hi, fun H' => ∃ w2 s2 F2 acc, Stp F H F2 H' ∧ wipe s2 vs = wipe s vs ∧ Hold K H' w2 s2 (.own acc :: p.2) (.ref Da :: tvs) F2 ∧ cmpL2 tg c ks1 it1 tg1 c1 elt vs vs1 (p.1.drop (i + 1)) acc w2 = .ok accE wE,
        fun H' hN => ⟨m - 1, by omega, by omega, hi, hN⟩, fun x H' hy => ?_⟩
      obtain ⟨kp, rx⟩ := src.yld H2 _ i _ x H' rT hd hy
      unfold cmpL2 at q2
      cases et : setT tg p.1[i] (wipeE w2 vs) with
      | none => rw [et] at q2; cases q2
      | some w3 =>
        rw [et] at q2
        dsimp only at q2
        refine hg x (wipe s vs) H' _ (wipeE w2 vs) w3 F3 (.own acc :: p.2) (.ref Da :: tvs) p.1[i] rx (src.pl i _ hd) (hold_kp h3 kp) et fun s3 F4 ag3 sub4 h4 => ?_
        have ew : wipe s3 vs = wipe s vs := by
          refine wipe_ext (by rw [ag3.1, wipe_length]) fun k n => ?_
          rw [ag3.2 k (fun z => n (hv k z)), wipe_get n]
        refine ⟨ew, ?_⟩
        have st4 : Stp F H F4 H' := ((st2.trans (Stp.refl sub3)).trans (stp_kp kp)).trans (Stp.refl sub4)
        obtain ⟨b, w4, ec, q4⟩ := bindN_ok' q2
        refine tT_runN h4 ec fun H5 F5 st5 h5 => ?_
        cases b with
        | false =>
          rw [if_neg Bool.false_ne_true]
          rw [if_neg Bool.false_ne_true] at q4
          exact ⟨w4, s3, F5, acc, st4.trans st5, ew, h5, q4⟩
        | true =>
          rw [if_pos rfl]
          rw [if_pos rfl] at q4
          obtain ⟨p1, w5, ee, q5⟩ := bindN_ok' q4
          obtain ⟨acc2, w6, ec2, q6⟩ := bindN_ok' q5
          refine tI_runN h5 ee fun J1 H6 F6 tvs1 st6 h6 src1 lnk1 => ?_
          have hl5 := hold_len h5
          have hl6 := hold_len h6
          replace h6 : Hold K H6 w5 s3 (.own acc :: (p.2 ++ p1.2)) (.ref Da :: (tvs ++ tvs1)) F6 := h6
          have hlt : p1.2.length = tvs1.length := by
            have a1 : (D.own acc :: p.2).length = (V.ref Da :: tvs).length := hl5
            rw [List.length_append, List.length_append, a1] at hl6
            omega
          refine cmp_in hg1 hv1 src1 h6 (by rw [List.length_append, List.length_append, hlen, hlt]) (fun H' f r => ?_) ec2 fun H7 F7 st7 h7 => ?_
          · obtain ⟨v1, v2, f1, f2, ev, _, ra, rb⟩ := r.split
            have := ra.length
            obtain ⟨rfl, rfl⟩ := List.append_inj ev (by rw [← hlen, this])
            exact ⟨f2, rb⟩
          · have h8 := Hold.comm (ds := .own acc2 :: p.2) (vs := .ref Da :: tvs) (es := p1.2) (us := tvs1) h7 (by show p.2.length + 1 = tvs.length + 1; rw [hlen])
            obtain ⟨F9, h9, sub9⟩ := Hold.putL2 h8 hlt lnk1
            exact ⟨_, s3, F9, acc2, (((st4.trans st5).trans st6).trans st7).trans (Stp.refl sub9), ew, h9, q6⟩
    · have ei : i = p.1.length := by omega
      subst ei
      refine .inl ⟨src.stop H2 _ rT, ?_⟩
      rw [List.drop_length] at q2
      unfold cmpL2 at q2
      cases q2
      have h8 := Hold.comm (ds := [.own accE]) (vs := [.ref Da]) h3s rfl
      obtain ⟨F9, h9, sub9⟩ := Hold.putL2 h8 hlen lnk
      exact q _ H2 F9 ((st2.trans (Stp.refl sub3)).trans (Stp.refl sub9)) h9
end
section
variable {X : Cx} {Eh : WX}
theorem pp_comp2 {elt tgE iter tgE1 iter1 : Expr} {ifs ifs1 : List Expr} {scope : Scope} {own : List (Str × Nat)} {vs1 : List Nat} {pos : Pos} {g g1 : TG} {tg tg1 : Tgt} {c c1 : PM Bool} {el : PM D} {ks ks1 : List (Option Nat)} {it it1 : PM (List D × List D)} (hc : X.calm = true) (hN : X.N.Nodup)
    (hi : PI X tgE iter (tI X.K X.mg Eh ks it)) (ok : BlkOk X.N X.env.scope scope own) (hr : TgR X.K g tg) (hr1 : TgR X.K g1 tg1)
    (hg : ∀ (s : Shared) (H : Hp) (C : Addr) (cl : List (Str × Addr)) (fp : List Addr), PG (X.blk s H scope (compEnvC scope cl C X.env) fp) tgE g)
    (ht : ∀ (s : Shared) (H : Hp) (C : Addr) (cl : List (Str × Addr)) (fp : List Addr), PTs (X.blk s H scope (compEnvC scope cl C X.env) fp) ifs (tT X.K X.mg EhN c))
    (hi1 : ∀ (s : Shared) (H : Hp) (C : Addr) (cl : List (Str × Addr)) (fp : List Addr), PI (X.blk s H scope (compEnvC scope cl C X.env) fp) tgE1 iter1 (tI X.K X.mg EhN ks1 it1))
    (hg1 : ∀ (s : Shared) (H : Hp) (C : Addr) (cl : List (Str × Addr)) (fp : List Addr), PG (X.blk s H scope (compEnvC scope cl C X.env) fp) tgE1 g1)
    (ht1 : ∀ (s : Shared) (H : Hp) (C : Addr) (cl : List (Str × Addr)) (fp : List Addr), PTs (X.blk s H scope (compEnvC scope cl C X.env) fp) ifs1 (tT X.K X.mg EhN c1))
    (he : ∀ (s : Shared) (H : Hp) (C : Addr) (cl : List (Str × Addr)) (fp : List Addr), PE (X.blk s H scope (compEnvC scope cl C X.env) fp) elt (tP X.K X.mg EhN el))
    (hv : ∀ i ∈ wrT tg, i ∈ own.map (·.2) := by decide) (hv1 : ∀ i ∈ wrT tg1, i ∈ vs1 := by decide) (hvs : ∀ i ∈ vs1, i ∈ own.map (·.2) := by decide) (hs : ∀ x, foldedSetIterable iter X.env x = pure x := by intro _; rfl) (hs1 : ∀ env x, foldedSetIterable iter1 env x = pure x := by intro _ _; rfl) :
    PE X (.ListComp elt [⟨tgE, iter, ifs, 0⟩, ⟨tgE1, iter1, ifs1, 0⟩] scope pos) (tP X.K X.mg Eh (xComp2 ks it tg c ks1 it1 tg1 c1 el (own.map (·.2)) vs1)) :=
  (pe_lc2 hc hN hi ok hvs hg ht hi1 hg1 ht1 he hs hs1).imp fun s H Q h => comp2_imp hr hr1 hv hv1 hvs h
end
end Pm

set_option autoImplicit false
namespace Pm
open PySem PySem.Spec L2
/-! ### reading a mirror: weakest preconditions -/
def Wp {α : Type} (r : Rs α) (Q : α → Ev → Prop) : Prop := ∃ a w, r = .ok a w ∧ Q a w
def WpR (r : Rd) (Q : D → List D → Prop) : Prop := ∃ d os, r = .ok d os ∧ Q d os
theorem Wp.mono {α : Type} {r : Rs α} {Q Q' : α → Ev → Prop} (h : Wp r Q) (i : ∀ a w, Q a w → Q' a w) : Wp r Q' := by
  obtain ⟨a, w, e, q⟩ := h; exact ⟨a, w, e, i a w q⟩
theorem WpR.mono {r : Rd} {Q Q' : D → List D → Prop} (h : WpR r Q) (i : ∀ a w, Q a w → Q' a w) : WpR r Q' := by
  obtain ⟨a, w, e, q⟩ := h; exact ⟨a, w, e, i a w q⟩
@[simp] theorem wp_ok {α : Type} {a : α} {w : Ev} {Q : α → Ev → Prop} : Wp (.ok a w) Q ↔ Q a w := ⟨fun ⟨_, _, e, q⟩ => by cases e; exact q, fun q => ⟨a, w, rfl, q⟩⟩
@[simp] theorem wp_bad {α : Type} {Q : α → Ev → Prop} : Wp (.bad : Rs α) Q ↔ False := ⟨fun ⟨_, _, e, q⟩ => (by cases e), fun h => h.elim⟩
theorem wp_bind {α β : Type} {r : Rs α} {k : α → Ev → Rs β} {Q : β → Ev → Prop} : Wp (r.bind k) Q ↔ Wp r fun a w => Wp (k a w) Q := by
  cases r with
  | ok a w => exact ⟨fun h => ⟨a, w, rfl, h⟩, fun ⟨_, _, e, q⟩ => by cases e; exact q⟩
  | ex c fs w => exact ⟨fun ⟨_, _, e, _⟩ => (by cases e), fun ⟨_, _, e, _⟩ => (by cases e)⟩
  | bad => exact ⟨fun ⟨_, _, e, _⟩ => (by cases e), fun ⟨_, _, e, _⟩ => (by cases e)⟩
theorem wp_bindN {α β : Type} {r : Rs α} {k : α → Ev → Rs β} {Q : β → Ev → Prop} : Wp (r.bindN k) Q ↔ Wp r fun a w => Wp (k a w) Q := by
  cases r with
  | ok a w => exact ⟨fun h => ⟨a, w, rfl, h⟩, fun ⟨_, _, e, q⟩ => by cases e; exact q⟩
  | ex c fs w => exact ⟨fun ⟨_, _, e, _⟩ => (by cases e), fun ⟨_, _, e, _⟩ => (by cases e)⟩
  | bad => exact ⟨fun ⟨_, _, e, _⟩ => (by cases e), fun ⟨_, _, e, _⟩ => (by cases e)⟩
section
variable {w : Ev} {Q : D → Ev → Prop} {QL : List D → Ev → Prop} {QB : Bool → Ev → Prop} {QS : Fl → Ev → Prop}
@[local simp] theorem wp_back {o : Option D} : Wp (back o w) Q ↔ ∃ z, o = some z ∧ Q z w := by
  cases o <;> simp
@[local simp] theorem wp_backB {o : Option Bool} : Wp (backB o w) QB ↔ ∃ z, o = some z ∧ QB z w := by
  cases o <;> simp
/-! slots -/
@[simp] theorem slot_zero {d : D} {l : Ev} : slot (some d :: l) 0 = some d := rfl
@[simp] theorem slot_zeroN {l : Ev} : slot (none :: l) 0 = none := rfl
@[simp] theorem slot_succ {x : Option D} {l : Ev} {n : Nat} : slot (x :: l) (n + 1) = slot l n := by unfold slot; rw [List.getElem?_cons_succ]
@[simp] theorem qV_eq {j : Nat} : qV j w = slot w j := rfl
@[simp] theorem wp_C {d : D} : Wp (xC d w) Q ↔ Q d w := by unfold xC; simp
@[local simp] theorem wp_P {q : Ev → Option D} : Wp (xP q w) Q ↔ ∃ d, q w = some d ∧ pl d = true ∧ Q d w := by
  unfold xP
  cases e : q w with
  | none => simp
  | some d => by_cases c : pl d = true <;> simp [c]
@[local simp] theorem wp_T {j : Nat} : Wp (xT j w) Q ↔ ∃ d, slot w j = some d ∧ Q d (w.set j none) := by
  unfold xT
  cases e : slot w j <;> simp
def iceQ (Q : D → Ev → Prop) (j : Nat) (w : Ev) : D → Prop
  | .own xs => pls xs = true ∧ Q (.lst xs) (w.set j (some (.lst xs)))
  | .tup xs => pls xs = true ∧ Q (.tup xs) w
  | d => Q d w
@[simp] theorem iceQ_own {j : Nat} {xs : List D} : iceQ Q j w (.own xs) ↔ pls xs = true ∧ Q (.lst xs) (w.set j (some (.lst xs))) := .rfl
@[simp] theorem iceQ_tup {j : Nat} {xs : List D} : iceQ Q j w (.tup xs) ↔ pls xs = true ∧ Q (.tup xs) w := .rfl
@[simp] theorem iceQ_int {j : Nat} {i : Int} : iceQ Q j w (.int i) ↔ Q (.int i) w := .rfl
@[simp] theorem iceQ_bl {j : Nat} {i : Bool} : iceQ Q j w (.bl i) ↔ Q (.bl i) w := .rfl
@[simp] theorem iceQ_str {j : Nat} {i : Str} : iceQ Q j w (.str i) ↔ Q (.str i) w := .rfl
@[simp] theorem iceQ_lst {j : Nat} {i : List D} : iceQ Q j w (.lst i) ↔ Q (.lst i) w := .rfl
@[simp] theorem iceQ_non {j : Nat} : iceQ Q j w .non ↔ Q .non w := .rfl
@[simp] theorem pl_int {i : Int} : pl (.int i) = true := rfl
@[simp] theorem pl_bl {i : Bool} : pl (.bl i) = true := rfl
@[simp] theorem pl_str {i : Str} : pl (.str i) = true := rfl
@[simp] theorem pl_lst {i : List D} : pl (.lst i) = true := rfl
@[simp] theorem pl_non : pl .non = true := rfl
@[simp] theorem pl_tup {i : List D} : pl (.tup i) = pls i := rfl
@[simp] theorem pl_own {i : List D} : pl (.own i) = false := rfl
@[simp] theorem pls_nil : pls [] = true := rfl
@[simp] theorem pls_cons {d : D} {ds : List D} : pls (d :: ds) = (pl d && pls ds) := rfl
theorem pls_all' {ds : List D} : pls ds = true ↔ ∀ d ∈ ds, pl d = true := by
  induction ds with
  | nil => simp
  | cons d ds ih => simp [ih]
theorem pls_map {α : Type} {f : α → D} (h : ∀ a, pl (f a) = true) (l : List α) : pls (l.map f) = true := pls_all'.mpr fun d m => by
  obtain ⟨a, _, e⟩ := List.mem_map.mp m
  rw [← e]; exact h a
@[simp] theorem pls_ints {l : List Int} : pls (l.map D.int) = true := pls_map (fun _ => rfl) l
@[simp] theorem pls_rows {l : List (List Int)} : pls (l.map fun r => D.tup (r.map D.int)) = true := pls_map (fun a => by rw [pl_tup]; exact pls_ints) l
@[simp] theorem pls_app {a b : List D} : pls (a ++ b) = (pls a && pls b) := by
  induction a with
  | nil => simp
  | cons d ds ih => simp [ih, Bool.and_assoc]
@[local simp] theorem wp_I {j : Nat} : Wp (xI j w) Q ↔ ∃ d, slot w j = some d ∧ iceQ Q j w d := by
  unfold xI
  cases e : slot w j with
  | none => simp
  | some d => cases d with
    | own xs => by_cases c : pls xs = true <;> simp [c, ownD]
    | tup xs => by_cases c : pls xs = true <;> simp [c, ownD]
    | non => simp
    | bl b => simp
    | int b => simp
    | str b => simp
    | lst b => simp
def kQ (Q : D → Ev → Prop) (j : Nat) (w : Ev) (d : D) : Prop := if pl d = true then Q d w else Q d (w.set j none)
@[simp] theorem kQ_own {j : Nat} {xs : List D} : kQ Q j w (.own xs) ↔ Q (.own xs) (w.set j none) := by simp [kQ]
@[simp] theorem kQ_lst {j : Nat} {xs : List D} : kQ Q j w (.lst xs) ↔ Q (.lst xs) w := by simp [kQ]
@[simp] theorem kQ_tup {j : Nat} {xs : List D} : kQ Q j w (.tup xs) ↔ if pls xs = true then Q (.tup xs) w else Q (.tup xs) (w.set j none) := .rfl
@[local simp] theorem wp_K {j : Nat} : Wp (xK j w) Q ↔ ∃ d, slot w j = some d ∧ kQ Q j w d := by
  unfold xK
  cases e : slot w j with
  | none => simp
  | some d => by_cases c : pl d = true <;> simp [c, kQ]
/-! operations -/
@[local simp] theorem wp_1g {op : D → Option D} {f : PM D} : Wp (x1g op f w) Q ↔ Wp (f w) fun x w1 => ∃ z, op x = some z ∧ Q z w1 := by unfold x1g; simp [wp_bind]
@[local simp] theorem wp_1p {op : D → Option D} {q : Ev → Option D} : Wp (x1p op q w) Q ↔ ∃ x, q w = some x ∧ ∃ z, op x = some z ∧ Q z w := by
  unfold x1p; cases e : q w <;> simp
@[local simp] theorem wp_2gg {op : D → D → Option D} {f g : PM D} : Wp (x2gg op f g w) Q ↔ Wp (f w) fun x w1 => Wp (g w1) fun y w2 => ∃ z, op x y = some z ∧ Q z w2 := by unfold x2gg; simp [wp_bind]
@[local simp] theorem wp_2gp {op : D → D → Option D} {f : PM D} {q : Ev → Option D} : Wp (x2gp op f q w) Q ↔ Wp (f w) fun x w1 => ∃ y, q w1 = some y ∧ ∃ z, op x y = some z ∧ Q z w1 := by
  unfold x2gp; simp only [wp_bind, wp_back]
  refine ⟨fun h => h.mono fun a w h => ?_, fun h => h.mono fun a w h => ?_⟩
  · obtain ⟨z, h1, h2⟩ := h; obtain ⟨y, h3, h4⟩ := Option.bind_eq_some_iff.mp h1; exact ⟨y, h3, z, h4, h2⟩
  · obtain ⟨y, h3, z, h4, h2⟩ := h; exact ⟨z, by rw [h3]; exact h4, h2⟩
@[local simp] theorem wp_2vg {op : D → D → Option D} {j : Nat} {g : PM D} : Wp (x2vg op j g w) Q ↔ (∃ x0, slot w j = some x0) ∧ Wp (g w) fun y w2 => ∃ x, slot w2 j = some x ∧ ∃ z, op x y = some z ∧ Q z w2 := by
  unfold x2vg
  cases e : slot w j with
  | none => simp
  | some d =>
    simp only [wp_bind, wp_back, Option.some.injEq, exists_eq', true_and]
    refine ⟨fun h => h.mono fun a w h => ?_, fun h => h.mono fun a w h => ?_⟩
    · obtain ⟨z, h1, h2⟩ := h; obtain ⟨y, h3, h4⟩ := Option.bind_eq_some_iff.mp h1; exact ⟨y, h3, z, h4, h2⟩
    · obtain ⟨y, h3, z, h4, h2⟩ := h; exact ⟨z, by rw [h3]; exact h4, h2⟩
@[local simp] theorem wp_2pp {op : D → D → Option D} {q1 q2 : Ev → Option D} : Wp (x2pp op q1 q2 w) Q ↔ ∃ x, q1 w = some x ∧ ∃ y, q2 w = some y ∧ ∃ z, op x y = some z ∧ Q z w := by
  unfold x2pp; cases e : q1 w <;> cases e2 : q2 w <;> simp [e2]
@[simp] theorem wp_nil : Wp (xNil w) QL ↔ QL [] w := by unfold xNil; simp
@[simp] theorem wp_cons {f : PM D} {g : PM (List D)} : Wp (xCons f g w) QL ↔ Wp (f w) fun d w1 => Wp (g w1) fun ds w2 => QL (d :: ds) w2 := by unfold xCons; simp [wp_bind]
@[local simp] theorem wp_tup {f : PM (List D)} : Wp (xTup f w) Q ↔ Wp (f w) fun ds w1 => ∃ z, mkTup ds = some z ∧ Q z w1 := by unfold xTup; simp [wp_bind]
@[local simp] theorem wp_own {f : PM (List D)} : Wp (xOwn f w) Q ↔ Wp (f w) fun ds w1 => ∃ z, mkOwn ds = some z ∧ Q z w1 := by unfold xOwn; simp [wp_bind]
theorem big : (1000000 : Nat) ≤ sizeLine := by decide
@[local simp] theorem wp_Bl {f : PM D} : Wp (tBl f w) QB ↔ Wp (f w) fun d w1 => ∃ b, d = .bl b ∧ QB b w1 := by
  unfold tBl
  simp only [wp_bind, wp_backB]
  have e : ∀ (d : D) (b : Bool), blD d = some b ↔ d = .bl b := fun d b => by cases d <;> simp [blD]
  simp [e]
@[local simp] theorem wp_Tru {f : PM D} : Wp (tTru f w) QB ↔ Wp (f w) fun d w1 => ∃ b, truD d = some b ∧ QB b w1 := by unfold tTru; simp [wp_bind]
@[local simp] theorem wp_TruP {q : Ev → Option D} : Wp (tTruP q w) QB ↔ ∃ d, q w = some d ∧ ∃ b, truD d = some b ∧ QB b w := by unfold tTruP; cases e : q w <;> simp
@[simp] theorem wp_NotF {t : PM Bool} : Wp (tNotF t w) QB ↔ Wp (t w) fun b w1 => QB (!b) w1 := by unfold tNotF; simp [wp_bind]
@[local simp] theorem wp_AndF {t u : PM Bool} : Wp (tAndF t u w) QB ↔ Wp (t w) fun b w1 => if b = true then Wp (u w1) QB else QB false w1 := by
  unfold tAndF; simp only [wp_bind]
  refine ⟨fun h => h.mono fun b w h => ?_, fun h => h.mono fun b w h => ?_⟩ <;> cases b <;> simpa using h
@[local simp] theorem wp_OrF {t u : PM Bool} : Wp (tOrF t u w) QB ↔ Wp (t w) fun b w1 => if b = true then QB true w1 else Wp (u w1) QB := by
  unfold tOrF; simp only [wp_bind]
  refine ⟨fun h => h.mono fun b w h => ?_, fun h => h.mono fun b w h => ?_⟩ <;> cases b <;> simpa using h
@[local simp] theorem wp_xAnd {f g : PM D} : Wp (xAnd f g w) Q ↔ Wp (f w) fun d w1 => ∃ b, d = .bl b ∧ if b = true then Wp (g w1) Q else Q (.bl false) w1 := by
  unfold xAnd; simp only [wp_bind]
  refine ⟨fun h => h.mono fun d w h => ?_, fun h => h.mono fun d w h => ?_⟩
  · cases d with
    | bl b => exact ⟨b, rfl, by cases b <;> simpa [blD] using h⟩
    | _ => simp [blD] at h
  · obtain ⟨b, e, h⟩ := h; subst e; cases b <;> simpa [blD] using h
@[local simp] theorem wp_xOr {f g : PM D} : Wp (xOr f g w) Q ↔ Wp (f w) fun d w1 => ∃ b, d = .bl b ∧ if b = true then Q (.bl true) w1 else Wp (g w1) Q := by
  unfold xOr; simp only [wp_bind]
  refine ⟨fun h => h.mono fun d w h => ?_, fun h => h.mono fun d w h => ?_⟩
  · cases d with
    | bl b => exact ⟨b, rfl, by cases b <;> simpa [blD] using h⟩
    | _ => simp [blD] at h
  · obtain ⟨b, e, h⟩ := h; subst e; cases b <;> simpa [blD] using h
@[local simp] theorem wp_xIf {t : PM Bool} {f g : PM D} : Wp (xIf t f g w) Q ↔ Wp (t w) fun b w1 => if b = true then Wp (f w1) Q else Wp (g w1) Q := by
  unfold xIf; simp only [wp_bind]
  refine ⟨fun h => h.mono fun b w h => ?_, fun h => h.mono fun b w h => ?_⟩ <;> cases b <;> simpa using h
@[local simp] theorem wp_App {j : Nat} {f : PM D} : Wp (xApp j f w) Q ↔ (∃ xs0, slot w j = some (.own xs0)) ∧ Wp (f w) fun d w1 => ∃ xs, slot w1 j = some (.own xs) ∧ xs.length < sizeLine ∧ Q .non (w1.set j (some (.own (xs ++ [d])))) := by
  have e : ∀ (w : Ev) (xs : List D), (slot w j).bind ownD = some xs ↔ slot w j = some (.own xs) := fun w xs => by
    cases z : slot w j with
    | none => simp
    | some d => cases d <;> simp [ownD]
  unfold xApp
  cases c : (slot w j).bind ownD with
  | none =>
    have : ∀ xs, slot w j ≠ some (.own xs) := fun xs z => by rw [(e w xs).mpr z] at c; cases c
    simp [this]
  | some xs =>
    have h1 := (e w xs).mp c
    simp only [wp_bind, h1, Option.some.injEq, D.own.injEq, exists_eq', true_and]
    refine ⟨fun h => h.mono fun d w1 h => ?_, fun h => h.mono fun d w1 h => ?_⟩
    · cases c2 : (slot w1 j).bind ownD with
      | none => rw [c2] at h; simp at h
      | some ys =>
        rw [c2] at h
        by_cases l : ys.length < sizeLine
        · exact ⟨ys, (e w1 ys).mp c2, l, by simpa [l] using h⟩
        · simp [l] at h
    · obtain ⟨ys, h2, l, h3⟩ := h
      rw [(e w1 ys).mpr h2]
      simpa [l] using h3
@[local simp] theorem wp_PopAt {j : Nat} {f : PM D} : Wp (xPopAt j f w) Q ↔ (∃ xs0, slot w j = some (.own xs0)) ∧ Wp (f w) fun d w1 => ∃ xs i k y, slot w1 j = some (.own xs) ∧ d = .int i ∧ ixN xs.length i = some k ∧ xs[k]? = some y ∧ xs.length ≤ sizeLine ∧ Q y (w1.set j (some (.own (xs.eraseIdx k)))) := by
  have e : ∀ (w : Ev) (xs : List D), (slot w j).bind ownD = some xs ↔ slot w j = some (.own xs) := fun w xs => by
    cases z : slot w j with
    | none => simp
    | some d => cases d <;> simp [ownD]
  unfold xPopAt
  cases c : (slot w j).bind ownD with
  | none =>
    have : ∀ xs, slot w j ≠ some (.own xs) := fun xs z => by rw [(e w xs).mpr z] at c; cases c
    simp [this]
  | some xs =>
    have h1 := (e w xs).mp c
    simp only [wp_bind, h1, Option.some.injEq, D.own.injEq, exists_eq', true_and]
    refine ⟨fun h => h.mono fun d w1 h => ?_, fun h => h.mono fun d w1 h => ?_⟩
    · cases c2 : (slot w1 j).bind ownD with
      | none => rw [c2] at h; simp at h
      | some ys =>
        rw [c2] at h
        cases d with
        | int i =>
          cases c3 : ixN ys.length i with
          | none => simp [c3] at h
          | some k =>
            cases c4 : ys[k]? with
            | none => simp [c3, c4] at h
            | some y =>
              by_cases l : ys.length ≤ sizeLine
              · exact ⟨ys, i, k, y, (e w1 ys).mp c2, rfl, c3, c4, l, by simpa [c3, c4, l] using h⟩
              · simp [c3, c4, l] at h
        | _ => simp at h
    · obtain ⟨ys, i, k, y, h2, h3, h4, h5, l, h6⟩ := h
      subst h3
      rw [(e w1 ys).mpr h2]
      simpa [h4, h5, l] using h6
@[local simp] theorem wp_RngL {f : PM D} : Wp (xRngL f w) Q ↔ Wp (f w) fun d w1 => ∃ z, dRng d = some z ∧ Q z w1 := by unfold xRngL; simp [wp_bind]
@[simp] theorem wp_bN {QO : Option Int → Ev → Prop} : Wp (bN w) QO ↔ QO none w := by unfold bN; simp
@[local simp] theorem wp_bS {f : PM D} {QO : Option Int → Ev → Prop} : Wp (bS f w) QO ↔ Wp (f w) fun d w1 => ∃ i, d = .int i ∧ QO (some i) w1 := by
  unfold bS; simp only [wp_bind]
  refine ⟨fun h => h.mono fun d w h => ?_, fun h => h.mono fun d w h => ?_⟩
  · cases d with
    | int i => exact ⟨i, rfl, by simpa [intD] using h⟩
    | _ => simp [intD] at h
  · obtain ⟨i, e, h⟩ := h; subst e; simpa [intD] using h
@[local simp] theorem wp_Slg {f : PM D} {l u : PM (Option Int)} : Wp (xSlg f l u w) Q ↔ Wp (f w) fun d w1 => Wp (l w1) fun lo w2 => Wp (u w2) fun hi w3 => ∃ z, dSl d lo hi = some z ∧ Q z w3 := by unfold xSlg; simp [wp_bind]
@[local simp] theorem wp_Slv {j : Nat} {l u : PM (Option Int)} : Wp (xSlv j l u w) Q ↔ (∃ x0, slot w j = some x0) ∧ Wp (l w) fun lo w2 => Wp (u w2) fun hi w3 => ∃ d, slot w3 j = some d ∧ ∃ z, dSl d lo hi = some z ∧ Q z w3 := by
  unfold xSlv
  cases e : slot w j with
  | none => simp
  | some d =>
    simp only [wp_bind, wp_back, Option.some.injEq, exists_eq', true_and]
    refine ⟨fun h => h.mono fun a w h => h.mono fun b w h => ?_, fun h => h.mono fun a w h => h.mono fun b w h => ?_⟩
    · obtain ⟨z, h1, h2⟩ := h; obtain ⟨y, h3, h4⟩ := Option.bind_eq_some_iff.mp h1; exact ⟨y, h3, z, h4, h2⟩
    · obtain ⟨y, h3, z, h4, h2⟩ := h; exact ⟨z, by rw [h3]; exact h4, h2⟩
/-! calls -/
@[simp] theorem wp_Call {np : Nat} {js : List Nat} {m : List D → Rd} {f : PM (List D)} : Wp (xCall np js m f w) Q ↔ Wp (f w) fun ds w1 => ds.length = np ∧ WpR (m ds) fun d outs => Q d (putB (js.map some) outs w1) := by
  unfold xCall; simp only [wp_bind]
  refine ⟨fun h => h.mono fun ds w h => ?_, fun h => h.mono fun ds w h => ?_⟩
  · by_cases c : ds.length = np
    · rw [if_pos c] at h
      cases e : m ds with
      | ok d os => rw [e] at h; exact ⟨c, d, os, rfl, by simpa using h⟩
      | ex _ _ _ => rw [e] at h; simp at h
      | bad => rw [e] at h; simp at h
    · rw [if_neg c] at h; simp at h
  · obtain ⟨c, d, os, e, h⟩ := h
    rw [if_pos c, e]; simpa using h
@[simp] theorem putB_nil {ds : List D} : putB [] ds w = w := by unfold putB; rfl
@[simp] theorem putB_some {j : Nat} {ks : List (Option Nat)} {d : D} {ds : List D} : putB (some j :: ks) (d :: ds) w = putB ks ds (w.set j (some d)) := rfl
@[simp] theorem putB_none {ks : List (Option Nat)} {d : D} {ds : List D} : putB (none :: ks) (d :: ds) w = putB ks ds w := rfl
@[simp] theorem putB_nil2 {ks : List (Option Nat)} : putB ks [] w = w := by
  cases ks with
  | nil => rfl
  | cons k ks => cases k <;> rfl
def endQ (io : List Nat) (Q : D → List D → Prop) : Fl → Ev → Prop
  | .rt d, w => ∃ os, outsOf io w = some os ∧ Q d os
  | .nx, w => ∃ os, outsOf io w = some os ∧ Q .non os
  | _, _ => False
@[local simp] theorem endQ_rt {io : List Nat} {QR : D → List D → Prop} {d : D} : endQ io QR (.rt d) w ↔ ∃ os, outsOf io w = some os ∧ QR d os := .rfl
@[local simp] theorem endQ_nx {io : List Nat} {QR : D → List D → Prop} : endQ io QR .nx w ↔ ∃ os, outsOf io w = some os ∧ QR .non os := .rfl
@[simp] theorem outsOf_nil : outsOf [] w = some [] := rfl
@[local simp] theorem outsOf_cons' {k : Nat} {io : List Nat} {os : List D} : outsOf (k :: io) w = some os ↔ ∃ d, slot w k = some d ∧ ∃ ds, outsOf io w = some ds ∧ os = d :: ds := by
  conv => lhs; unfold outsOf
  cases slot w k <;> cases outsOf io w <;> simp [eq_comm]
theorem wpr_mk {N np : Nat} {io : List Nat} {body : PM Fl} {ds : List D} {QR : D → List D → Prop} (h1 : ds.length = np) (h : Wp (body (startE N ds)) (endQ io QR)) : WpR (mkDef N np io body ds) QR := by
  obtain ⟨fl, w', e, q⟩ := h
  unfold mkDef
  rw [if_pos h1, e]
  cases fl with
  | rt d =>
    obtain ⟨os, e1, q⟩ := q
    show WpR (endD d (outsOf io w')) QR
    rw [e1]; exact ⟨d, os, rfl, q⟩
  | nx =>
    obtain ⟨os, e1, q⟩ := q
    show WpR (endD .non (outsOf io w')) QR
    rw [e1]; exact ⟨.non, os, rfl, q⟩
  | bk => exact q.elim
  | ct => exact q.elim
/-! statements -/
def seqQ (g : PM Fl) (Q : Fl → Ev → Prop) : Fl → Ev → Prop
  | .nx, w => Wp (g w) Q
  | fl, w => Q fl w
@[simp] theorem seqQ_nx {g : PM Fl} : seqQ g QS .nx w ↔ Wp (g w) QS := .rfl
@[simp] theorem seqQ_rt {g : PM Fl} {d : D} : seqQ g QS (.rt d) w ↔ QS (.rt d) w := .rfl
@[simp] theorem seqQ_bk {g : PM Fl} : seqQ g QS .bk w ↔ QS .bk w := .rfl
@[simp] theorem seqQ_ct {g : PM Fl} : seqQ g QS .ct w ↔ QS .ct w := .rfl
@[simp] theorem wp_Nx : Wp (sNx w) QS ↔ QS .nx w := by unfold sNx; simp
@[simp] theorem wp_Bk : Wp (sBk w) QS ↔ QS .bk w := by unfold sBk; simp
@[simp] theorem wp_Ct : Wp (sCt w) QS ↔ QS .ct w := by unfold sCt; simp
@[simp] theorem wp_Seq {f g : PM Fl} : Wp (sSeq f g w) QS ↔ Wp (f w) (seqQ g QS) := by
  unfold sSeq; simp only [wp_bind]
  refine ⟨fun h => h.mono fun fl w h => ?_, fun h => h.mono fun fl w h => ?_⟩ <;> cases fl <;> simpa using h
@[local simp] theorem wp_If {t : PM Bool} {f g : PM Fl} : Wp (sIf t f g w) QS ↔ Wp (t w) fun b w1 => if b = true then Wp (f w1) QS else Wp (g w1) QS := by
  unfold sIf; simp only [wp_bind]
  refine ⟨fun h => h.mono fun b w h => ?_, fun h => h.mono fun b w h => ?_⟩ <;> cases b <;> simpa using h
@[simp] theorem wp_Ret {f : PM D} : Wp (sRet f w) QS ↔ Wp (f w) fun d w1 => QS (.rt d) w1 := by unfold sRet; simp [wp_bind]
@[simp] theorem wp_Expr {f : PM D} : Wp (sExpr f w) QS ↔ Wp (f w) fun _ w1 => QS .nx w1 := by unfold sExpr; simp [wp_bind]
@[local simp] theorem wp_backW {o : Option Ev} : Wp (backW o) QS ↔ ∃ w1, o = some w1 ∧ QS .nx w1 := by cases o <;> simp
@[local simp] theorem setE_some {i : Nat} {d : D} {w1 : Ev} : setE w i d = some w1 ↔ i < w.length ∧ w1 = w.set i (some d) := by
  unfold setE
  by_cases c : i < w.length <;> simp [c, eq_comm]
@[local simp] theorem wp_Set {i : Nat} {f : PM D} : Wp (sSet i f w) QS ↔ Wp (f w) fun d w1 => i < w1.length ∧ QS .nx (w1.set i (some d)) := by
  unfold sSet; simp [wp_bind, and_assoc]
@[local simp] theorem wp_Aug {i : Nat} {op : D → D → Option D} {f : PM D} : Wp (sAug i op f w) QS ↔ ∃ d0, slot w i = some d0 ∧ pl d0 = true ∧ Wp (f w) fun d w1 => ∃ z, op d0 d = some z ∧ i < w1.length ∧ QS .nx (w1.set i (some z)) := by
  unfold sAug
  cases e : slot w i with
  | none => simp
  | some d0 =>
    by_cases c : pl d0 = true
    · simp only [c, if_true, wp_bind, Option.some.injEq, exists_eq_left', true_and]
      refine ⟨fun h => h.mono fun d w h => ?_, fun h => h.mono fun d w h => ?_⟩
      · cases ez : op d0 d with
        | none => rw [ez] at h; simp at h
        | some z => rw [ez] at h; exact ⟨z, rfl, by simpa [and_assoc] using h⟩
      · obtain ⟨z, ez, h⟩ := h; rw [ez]; simpa [and_assoc] using h
    · simp [c]
@[local simp] theorem wp_SetI {j : Nat} {f g : PM D} : Wp (sSetI j f g w) QS ↔ Wp (f w) fun d w1 => (∃ x0, slot w1 j = some x0) ∧ Wp (g w1) fun i w2 => ∃ xs n k, slot w2 j = some (.own xs) ∧ i = .int n ∧ ixN xs.length n = some k ∧ QS .nx (w2.set j (some (.own (xs.set k d)))) := by
  have e : ∀ (w : Ev) (xs : List D), (slot w j).bind ownD = some xs ↔ slot w j = some (.own xs) := fun w xs => by
    cases z : slot w j with
    | none => simp
    | some d => cases d <;> simp [ownD]
  unfold sSetI; simp only [wp_bind]
  refine ⟨fun h => h.mono fun d w h => ?_, fun h => h.mono fun d w h => ?_⟩
  · cases c : slot w j with
    | none => rw [c] at h; simp at h
    | some x =>
      rw [c] at h
      refine ⟨⟨x, rfl⟩, ?_⟩
      simp only [wp_bind] at h
      refine h.mono fun i w2 h => ?_
      cases c2 : (slot w2 j).bind ownD with
      | none => rw [c2] at h; simp at h
      | some ys =>
        rw [c2] at h
        cases i with
        | int n =>
          cases c3 : ixN ys.length n with
          | none => simp [c3] at h
          | some k => exact ⟨ys, n, k, (e w2 ys).mp c2, rfl, c3, by simpa [c3] using h⟩
        | _ => simp at h
  · obtain ⟨⟨x, c⟩, h⟩ := h
    rw [c]
    simp only [wp_bind]
    refine h.mono fun i w2 h => ?_
    obtain ⟨ys, n, k, h1, h2, h3, h4⟩ := h
    subst h2
    rw [(e w2 ys).mpr h1]
    simpa [h3] using h4
/-! loops -/
@[local simp] theorem wp_iW {k : List D → Option (List D × List D)} {f : PM (List D)} {QP : List D × List D → Ev → Prop} : Wp (iW k f w) QP ↔ Wp (f w) fun ds w1 => ∃ p, k ds = some p ∧ QP p w1 := by
  unfold iW; simp only [wp_bind]
  refine ⟨fun h => h.mono fun d w h => ?_, fun h => h.mono fun d w h => ?_⟩
  · cases e : k d with
    | none => rw [e] at h; simp at h
    | some p => rw [e] at h; exact ⟨p, rfl, by simpa using h⟩
  · obtain ⟨p, e, h⟩ := h; rw [e]; simpa using h
@[simp] theorem wp_For {ks : List (Option Nat)} {it : PM (List D × List D)} {tg : Tgt} {body : PM Fl} : Wp (sFor ks it tg body w) QS ↔ Wp (it w) fun p w1 => Wp (forL tg body p.1 w1) fun fl w2 => QS fl (putB ks p.2 w2) := by
  unfold sFor; simp only [wp_bind]
  refine ⟨fun h => h.mono fun p w h => ?_, fun h => h.mono fun p w h => ?_⟩
  · cases e : forL tg body p.1 w with
    | ok fl w2 => rw [e] at h; unfold putR at h; simpa using h
    | ex _ _ _ => rw [e] at h; obtain ⟨_, _, z, _⟩ := h; cases z
    | bad => rw [e] at h; obtain ⟨_, _, z, _⟩ := h; cases z
  · obtain ⟨fl, w2, e, q⟩ := h
    rw [e]; unfold putR; simpa using q
def loopQ (J : Ev → Prop) (Q : Fl → Ev → Prop) : Fl → Ev → Prop
  | .nx, w => J w
  | .ct, w => J w
  | .bk, w => Q .nx w
  | .rt d, w => Q (.rt d) w
@[simp] theorem loopQ_nx {J : Ev → Prop} : loopQ J QS .nx w ↔ J w := .rfl
@[simp] theorem loopQ_ct {J : Ev → Prop} : loopQ J QS .ct w ↔ J w := .rfl
@[simp] theorem loopQ_bk {J : Ev → Prop} : loopQ J QS .bk w ↔ QS .nx w := .rfl
@[simp] theorem loopQ_rt {J : Ev → Prop} {d : D} : loopQ J QS (.rt d) w ↔ QS (.rt d) w := .rfl
theorem wp_for {tg : Tgt} {body : PM Fl} (I : Nat → Ev → Prop) : ∀ {items : List D} {n : Nat} {w : Ev}, I n w → (∀ w, I (n + items.length) w → QS .nx w) →
    (∀ i d w, items[i]? = some d → I (n + i) w → ∃ w1, setT tg d w = some w1 ∧ Wp (body w1) (loopQ (I (n + i + 1)) QS)) → Wp (forL tg body items w) QS
  | [], n, w, h0, he, hs => by
    rw [forL_nil, wp_ok]; exact he w h0
  | d :: ds, n, w, h0, he, hs => by
    obtain ⟨w1, e1, h1⟩ := hs 0 d w rfl h0
    rw [forL_cons, e1]
    simp only [wp_bind]
    refine h1.mono fun fl w2 h2 => ?_
    have rcd : I (n + 1) w2 → Wp (forL tg body ds w2) QS := fun h => wp_for I h (fun w hw => he w (by rw [List.length_cons]; rw [show n + (ds.length + 1) = n + 1 + ds.length by omega]; exact hw)) fun i d' w' hi hw => by
      have := hs (i + 1) d' w' (by rw [List.getElem?_cons_succ]; exact hi) (by rw [show n + (i + 1) = n + 1 + i by omega]; exact hw)
      rw [show n + (i + 1) + 1 = n + 1 + i + 1 by omega] at this
      exact this
    cases fl with
    | nx => exact rcd h2
    | ct => exact rcd h2
    | bk => exact wp_ok.mpr h2
    | rt v => exact wp_ok.mpr h2
theorem wp_for0 {tg : Tgt} {body : PM Fl} {items : List D} (I : Nat → Ev → Prop) (h0 : I 0 w) (he : ∀ w, I items.length w → QS .nx w)
    (hs : ∀ i d w, items[i]? = some d → I i w → ∃ w1, setT tg d w = some w1 ∧ Wp (body w1) (loopQ (I (i + 1)) QS)) : Wp (forL tg body items w) QS :=
  wp_for I h0 (fun w h => he w (by rw [Nat.zero_add] at h; exact h)) fun i d w hi h => by
    rw [Nat.zero_add] at h ⊢; exact hs i d w hi h
@[simp] theorem setT_nm {i : Nat} {d : D} : setT (.nm i) d w = setE w i d := rfl
@[simp] theorem setT_tp {is : List Nat} {xs : List D} : setT (.tp is) (.tup xs) w = setA is xs w := rfl
@[local simp] theorem setA_cons {i : Nat} {is : List Nat} {d : D} {ds : List D} {w2 : Ev} : setA (i :: is) (d :: ds) w = some w2 ↔ i < w.length ∧ setA is ds (w.set i (some d)) = some w2 := by
  show (setE w i d).bind (setA is ds) = some w2 ↔ _
  unfold setE
  by_cases c : i < w.length <;> simp [c]
@[simp] theorem setA_nil : setA [] [] w = some w := rfl
@[simp] theorem wp_Comp {ks : List (Option Nat)} {it : PM (List D × List D)} {tg : Tgt} {c : PM Bool} {elt : PM D} {vs : List Nat} : Wp (xComp ks it tg c elt vs w) Q ↔ Wp (it w) fun p w1 => Wp (cmpL tg c elt vs p.1 [] w1) fun acc w2 => Q (.own acc) (putB ks p.2 (wipeE w2 vs)) := by
  unfold xComp; simp [wp_bind, wp_bindN]
@[simp] theorem wp_Yes : Wp (tYesF w) QB ↔ QB true w := by unfold tYesF; simp
@[simp] theorem wipeE_nil : wipeE w [] = w := rfl
@[simp] theorem wipeE_cons {v : Nat} {vs : List Nat} : wipeE w (v :: vs) = (wipeE w vs).set v none := rfl
theorem wp_cmp {tg : Tgt} {c : PM Bool} {elt : PM D} {vs : List Nat} (I : Nat → List D → Ev → Prop) : ∀ {items acc : List D} {n : Nat} {w : Ev}, I n acc w → (∀ acc w, I (n + items.length) acc w → QL acc w) →
    (∀ i d acc w, items[i]? = some d → I (n + i) acc w → ∃ w1, setT tg d (wipeE w vs) = some w1 ∧ Wp (c w1) fun b w2 => if b = true then Wp (elt w2) fun e w3 => acc.length < sizeLine ∧ I (n + i + 1) (acc ++ [e]) w3 else I (n + i + 1) acc w2) → Wp (cmpL tg c elt vs items acc w) QL
  | [], acc, n, w, h0, he, hs => by
    rw [cmpL_nil, wp_ok]; exact he acc w h0
  | d :: ds, acc, n, w, h0, he, hs => by
    obtain ⟨w1, e1, h1⟩ := hs 0 d acc w rfl h0
    rw [cmpL_cons, e1]
    simp only [wp_bindN]
    refine h1.mono fun b w2 h2 => ?_
    have rcd : ∀ {acc w2}, I (n + 1) acc w2 → Wp (cmpL tg c elt vs ds acc w2) QL := fun {acc w2} h => wp_cmp I h (fun acc w hw => he acc w (by rw [List.length_cons]; rw [show n + (ds.length + 1) = n + 1 + ds.length by omega]; exact hw)) fun i d' acc w' hi hw => by
      have := hs (i + 1) d' acc w' (by rw [List.getElem?_cons_succ]; exact hi) (by rw [show n + (i + 1) = n + 1 + i by omega]; exact hw)
      rw [show n + (i + 1) + 1 = n + 1 + i + 1 by omega] at this
      exact this
    cases b with
    | false => rw [if_neg (by decide)] at h2 ⊢; exact rcd h2
    | true =>
      rw [if_pos rfl] at h2 ⊢
      rw [wp_bindN]
      refine h2.mono fun e w3 h3 => ?_
      rw [if_pos h3.1]
      exact rcd h3.2
theorem wp_cmp0 {tg : Tgt} {c : PM Bool} {elt : PM D} {vs : List Nat} {items : List D} (I : Nat → List D → Ev → Prop) (h0 : I 0 [] w) (he : ∀ acc w, I items.length acc w → QL acc w)
    (hs : ∀ i d acc w, items[i]? = some d → I i acc w → ∃ w1, setT tg d (wipeE w vs) = some w1 ∧ Wp (c w1) fun b w2 => if b = true then Wp (elt w2) fun e w3 => acc.length < sizeLine ∧ I (i + 1) (acc ++ [e]) w3 else I (i + 1) acc w2) : Wp (cmpL tg c elt vs items [] w) QL :=
  wp_cmp I h0 (fun acc w h => he acc w (by rw [Nat.zero_add] at h; exact h)) fun i d acc w hi h => by
    rw [Nat.zero_add] at h ⊢; exact hs i d acc w hi h
/-! sources -/
@[simp] theorem seqP_tup {xs : List D} : seqP (.tup xs) = if pls xs = true then some xs else none := rfl
@[simp] theorem seqP_lst {xs : List D} : seqP (.lst xs) = if pls xs = true then some xs else none := rfl
@[simp] theorem seqP_own {xs : List D} : seqP (.own xs) = if pls xs = true then some xs else none := rfl
@[local simp] theorem qG_eq {d : D} {p : List D × List D} : qG [d] = some p ↔ ∃ xs, seqP d = some xs ∧ p = (xs, [d]) := by
  show (seqP d).map _ = some p ↔ _
  cases seqP d <;> simp [eq_comm]
@[local simp] theorem qEn_eq {d : D} {p : List D × List D} : qEn [d] = some p ↔ ∃ xs, seqP d = some xs ∧ p = (enumD xs, [d]) := by
  show (seqP d).map _ = some p ↔ _
  cases seqP d <;> simp [eq_comm]
@[local simp] theorem qR1_eq {n : Int} {p : List D × List D} : qR1 [.int n] = some p ↔ rngC n = true ∧ p = (rngD n.toNat, []) := by
  show (if rngC n = true then some (rngD n.toNat, []) else none) = some p ↔ _
  by_cases c : rngC n = true <;> simp [c, eq_comm]
@[local simp] theorem qR2_eq {lo hi : Int} {p : List D × List D} : qR2 [.int lo, .int hi] = some p ↔ (rngC lo = true ∧ rngC hi = true) ∧ p = (rngD2 lo (hi - lo).toNat, []) := by
  show (if rngC lo = true ∧ rngC hi = true then some (rngD2 lo (hi - lo).toNat, []) else none) = some p ↔ _
  by_cases c : rngC lo = true ∧ rngC hi = true
  · rw [if_pos c]
    constructor
    · intro h; exact ⟨c, (Option.some.inj h).symm⟩
    · intro h; rw [h.2]
  · rw [if_neg c]
    constructor
    · intro h; cases h
    · intro h; exact absurd h.1 c
@[local simp] theorem qZp_eqT {xs ys : List D} {p : List D × List D} : qZp [.tup xs, .tup ys] = some p ↔ pls xs = true ∧ pls ys = true ∧ p = (zipD xs ys, [.tup xs, .tup ys]) := by
  show (if sameK (.tup xs) (.tup ys) = true then (seqP (.tup xs)).bind fun xs' => (seqP (.tup ys)).map fun ys' => (zipD xs' ys', [D.tup xs, D.tup ys]) else none) = some p ↔ _
  rw [if_pos (by rfl)]
  rw [seqP_tup, seqP_tup]
  by_cases c : pls xs = true
  · by_cases c2 : pls ys = true
    · rw [if_pos c, if_pos c2]
      constructor
      · intro h; exact ⟨c, c2, (Option.some.inj h).symm⟩
      · intro h; rw [h.2.2]; rfl
    · rw [if_pos c, if_neg c2]
      constructor
      · intro h; cases h
      · intro h; exact absurd h.2.1 c2
  · rw [if_neg c]
    constructor
    · intro h; cases h
    · intro h; exact absurd h.1 c
theorem rngC_of {n : Int} (h : 0 ≤ n) (h2 : n ≤ 1000000000) : rngC n = true := by
  unfold rngC; rw [decide_eq_true_iff]; omega
/-! operations on data -/
@[simp] theorem dAdd_int {i j : Int} : dAdd (.int i) (.int j) = some (.int (i + j)) := rfl
@[simp] theorem dAdd_own {xs ys : List D} : dAdd (.own xs) (.own ys) = if pls xs = true ∧ pls ys = true ∧ xs.length + ys.length ≤ sizeLine then some (.own (xs ++ ys)) else none := rfl
@[simp] theorem dAdd_tup {xs ys : List D} : dAdd (.tup xs) (.tup ys) = if pls xs = true ∧ pls ys = true ∧ xs.length + ys.length ≤ sizeLine then some (.tup (xs ++ ys)) else none := rfl
@[simp] theorem dSub_int {i j : Int} : dSub (.int i) (.int j) = some (.int (i - j)) := rfl
@[simp] theorem dMul_int {i j : Int} : dMul (.int i) (.int j) = if mulC i j = true then some (.int (i * j)) else none := rfl
@[simp] theorem dDiv_int {i j : Int} : dDiv (.int i) (.int j) = if divC i j = true then some (.int (i / j)) else none := rfl
@[simp] theorem dMod_int {i j : Int} : dMod (.int i) (.int j) = if modC i j = true then some (.int (i % j)) else none := rfl
@[simp] theorem dPow_int {i j : Int} : dPow (.int i) (.int j) = if powC i j = true then some (.int (i ^ j.toNat)) else none := rfl
@[simp] theorem dNeg_int {i : Int} : dNeg (.int i) = some (.int (-i)) := rfl
@[simp] theorem dLt_int {i j : Int} : dLt (.int i) (.int j) = some (.bl (decide (i < j))) := rfl
@[simp] theorem dLe_int {i j : Int} : dLe (.int i) (.int j) = some (.bl (decide (i ≤ j))) := rfl
@[simp] theorem dGt_int {i j : Int} : dGt (.int i) (.int j) = some (.bl (decide (j < i))) := rfl
@[simp] theorem dGe_int {i j : Int} : dGe (.int i) (.int j) = some (.bl (decide (j ≤ i))) := rfl
@[simp] theorem dInt_int {i : Int} : dInt (.int i) = some (.int i) := rfl
@[simp] theorem dInt_bl {b : Bool} : dInt (.bl b) = some (.int (if b = true then 1 else 0)) := rfl
@[simp] theorem dLen_tup {xs : List D} : dLen (.tup xs) = some (.int xs.length) := rfl
@[simp] theorem dLen_lst {xs : List D} : dLen (.lst xs) = some (.int xs.length) := rfl
@[simp] theorem dLen_own {xs : List D} : dLen (.own xs) = some (.int xs.length) := rfl
@[simp] theorem dTuple_tup {xs : List D} : dTuple (.tup xs) = if pls xs = true then some (.tup xs) else none := rfl
@[simp] theorem dTuple_lst {xs : List D} : dTuple (.lst xs) = if pls xs = true then some (.tup xs) else none := rfl
@[simp] theorem dTuple_own {xs : List D} : dTuple (.own xs) = if pls xs = true then some (.tup xs) else none := rfl
@[simp] theorem dNot_bl {b : Bool} : dNot (.bl b) = some (.bl (!b)) := rfl
@[simp] theorem dIs_non {x : D} : dIs x .non = some (.bl (isN x)) := rfl
@[simp] theorem dIsNot_non {x : D} : dIsNot x .non = some (.bl (!isN x)) := rfl
@[simp] theorem isN_non : isN .non = true := rfl
@[simp] theorem isN_int {i : Int} : isN (.int i) = false := rfl
@[simp] theorem isN_bl {i : Bool} : isN (.bl i) = false := rfl
@[simp] theorem isN_tup {i : List D} : isN (.tup i) = false := rfl
@[simp] theorem isN_lst {i : List D} : isN (.lst i) = false := rfl
@[simp] theorem isN_own {i : List D} : isN (.own i) = false := rfl
@[simp] theorem isN_str {i : Str} : isN (.str i) = false := rfl
@[simp] theorem truD_bl {b : Bool} : truD (.bl b) = some b := rfl
@[simp] theorem truD_int {i : Int} : truD (.int i) = some (i != 0) := rfl
@[simp] theorem truD_non : truD .non = some false := rfl
@[simp] theorem truD_tup {xs : List D} : truD (.tup xs) = some (!xs.isEmpty) := rfl
@[simp] theorem truD_lst {xs : List D} : truD (.lst xs) = some (!xs.isEmpty) := rfl
@[simp] theorem truD_own {xs : List D} : truD (.own xs) = some (!xs.isEmpty) := rfl
@[simp] theorem dIsi_bb {b : Bool} : dIsi "bool" (.bl b) = some (.bl true) := congrArg (Option.map D.bl) (show kitB "bool" "bool" = some true by decide +kernel)
@[simp] theorem dIsi_bi {i : Int} : dIsi "bool" (.int i) = some (.bl false) := congrArg (Option.map D.bl) (show kitB "int" "bool" = some false by decide +kernel)
@[simp] theorem dIsi_bt {xs : List D} : dIsi "bool" (.tup xs) = some (.bl false) := congrArg (Option.map D.bl) (show kitB "tuple" "bool" = some false by decide +kernel)
@[simp] theorem dIsi_bn : dIsi "bool" .non = some (.bl false) := congrArg (Option.map D.bl) (show kitB (tyD .non) "bool" = some false by decide +kernel)
@[simp] theorem dIsi_ii {i : Int} : dIsi "int" (.int i) = some (.bl true) := congrArg (Option.map D.bl) (show kitB "int" "int" = some true by decide +kernel)
@[simp] theorem dIsi_ib {b : Bool} : dIsi "int" (.bl b) = some (.bl true) := congrArg (Option.map D.bl) (show kitB "bool" "int" = some true by decide +kernel)
@[simp] theorem dIsi_it {xs : List D} : dIsi "int" (.tup xs) = some (.bl false) := congrArg (Option.map D.bl) (show kitB "tuple" "int" = some false by decide +kernel)
@[simp] theorem dIsi_in : dIsi "int" .non = some (.bl false) := congrArg (Option.map D.bl) (show kitB (tyD .non) "int" = some false by decide +kernel)
@[simp] theorem dIsi_tt {xs : List D} : dIsi "tuple" (.tup xs) = some (.bl true) := congrArg (Option.map D.bl) (show kitB "tuple" "tuple" = some true by decide +kernel)
@[simp] theorem dIsi_ti {i : Int} : dIsi "tuple" (.int i) = some (.bl false) := congrArg (Option.map D.bl) (show kitB "int" "tuple" = some false by decide +kernel)
@[simp] theorem dRng_int {n : Int} : dRng (.int n) = if rngC n = true ∧ n.toNat ≤ 16777216 then some (.own (rngD n.toNat)) else none := rfl
def seqIx (xs : List D) (i : Int) : Option D := match atI xs i with
  | some d => if pl d = true then some d else none
  | none => none
@[simp] theorem dIx_tup {xs : List D} {i : Int} : dIx (.tup xs) (.int i) = seqIx xs i := rfl
@[simp] theorem dIx_lst {xs : List D} {i : Int} : dIx (.lst xs) (.int i) = seqIx xs i := rfl
@[simp] theorem dIx_own {xs : List D} {i : Int} : dIx (.own xs) (.int i) = seqIx xs i := rfl
theorem seqIx_nat {xs : List D} {i : Nat} {d : D} (h : xs[i]? = some d) (p : pl d = true) : seqIx xs (i : Int) = some d := by
  unfold seqIx; rw [atI_nat h]; exact if_pos p
theorem seqIx_ints {l : List Int} {i : Nat} {v : Int} (h : l[i]? = some v) : seqIx (l.map D.int) (i : Int) = some (.int v) := seqIx_nat (by rw [List.getElem?_map, h]; rfl) rfl
end
/-! ### the same, lazily: a step is read only once its value is known -/
def ob {α : Type} (o : Option α) (P : α → Prop) : Prop := ∃ a, o = some a ∧ P a
@[simp] theorem ob_some {α : Type} {a : α} {P : α → Prop} : ob (some a) P ↔ P a := by unfold ob; simp
@[simp] theorem ob_none {α : Type} {P : α → Prop} : ob none P ↔ False := by unfold ob; simp
@[simp] theorem ob_ite {α : Type} {c : Prop} [Decidable c] {a : α} {P : α → Prop} : ob (if c then some a else none) P ↔ c ∧ P a := by
  by_cases h : c <;> simp [h]
@[simp] theorem ob_map {α β : Type} {o : Option α} {f : α → β} {P : β → Prop} : ob (o.map f) P ↔ ob o fun a => P (f a) := by
  cases o <;> simp
theorem ob_congr {α : Type} {o o' : Option α} {P : α → Prop} (h : o = o') : ob o P = ob o' P := by rw [h]
theorem Wp_congr {α : Type} {o o' : Rs α} {P : α → Ev → Prop} (h : o = o') : Wp o P = Wp o' P := by rw [h]
theorem WpR_congr {o o' : Rd} {P : D → List D → Prop} (h : o = o') : WpR o P = WpR o' P := by rw [h]
theorem kQ_congr {Q : D → Ev → Prop} {j : Nat} {w w' : Ev} {d d' : D} (h : w = w') (h2 : d = d') : kQ Q j w d = kQ Q j w' d' := by rw [h, h2]
theorem iceQ_congr {Q : D → Ev → Prop} {j : Nat} {w w' : Ev} {d d' : D} (h : w = w') (h2 : d = d') : iceQ Q j w d = iceQ Q j w' d' := by rw [h, h2]
theorem seqQ_congr {g : PM Fl} {Q : Fl → Ev → Prop} {w w' : Ev} {d d' : Fl} (h : d = d') (h2 : w = w') : seqQ g Q d w = seqQ g Q d' w' := by rw [h, h2]
theorem loopQ_congr {J : Ev → Prop} {Q : Fl → Ev → Prop} {w w' : Ev} {d d' : Fl} (h : d = d') (h2 : w = w') : loopQ J Q d w = loopQ J Q d' w' := by rw [h, h2]
@[simp] theorem blD_bl {b : Bool} : blD (.bl b) = some b := rfl
theorem ob_bl {d : D} {P : Bool → Prop} : (∃ b, d = .bl b ∧ P b) ↔ ob (blD d) P := by
  cases d <;> simp [ob, blD]
def brQ (b : Bool) (A B : Prop) : Prop := if b = true then A else B
@[simp] theorem brQ_t {A B : Prop} : brQ true A B ↔ A := by simp [brQ]
@[simp] theorem brQ_f {A B : Prop} : brQ false A B ↔ B := by simp [brQ]
theorem brQ_congr {b b' : Bool} {A B : Prop} (h : b = b') : brQ b A B = brQ b' A B := by rw [h]
theorem brQ_of {b : Bool} {A B : Prop} (h1 : b = true → A) (h2 : b = false → B) : brQ b A B := by cases b <;> simp [h1, h2]
section
variable {w : Ev} {Q : D → Ev → Prop} {QL : List D → Ev → Prop} {QB : Bool → Ev → Prop} {QS : Fl → Ev → Prop}
@[simp] theorem lz_P {q : Ev → Option D} : Wp (xP q w) Q ↔ ob (q w) fun d => pl d = true ∧ Q d w := wp_P
@[simp] theorem lz_T {j : Nat} : Wp (xT j w) Q ↔ ob (slot w j) fun d => Q d (w.set j none) := wp_T
@[simp] theorem lz_I {j : Nat} : Wp (xI j w) Q ↔ ob (slot w j) fun d => iceQ Q j w d := wp_I
@[simp] theorem lz_K {j : Nat} : Wp (xK j w) Q ↔ ob (slot w j) fun d => kQ Q j w d := wp_K
@[simp] theorem lz_Z {j : Nat} {g : PM (List D)} : Wp (xZ j g w) QL ↔ ob (slot w j) fun _ => Wp (g w) fun ds w1 => ob (slot w1 j) fun d => kQ (fun d w2 => QL (d :: ds) w2) j w1 d := by
  unfold xZ
  cases e : slot w j with
  | none => simp
  | some d0 => simp [wp_bind, ob]
@[simp] theorem lz_1g {op : D → Option D} {f : PM D} : Wp (x1g op f w) Q ↔ Wp (f w) fun x w1 => ob (op x) fun z => Q z w1 := wp_1g
@[simp] theorem lz_1p {op : D → Option D} {q : Ev → Option D} : Wp (x1p op q w) Q ↔ ob (q w) fun x => ob (op x) fun z => Q z w := wp_1p
@[simp] theorem lz_2gg {op : D → D → Option D} {f g : PM D} : Wp (x2gg op f g w) Q ↔ Wp (f w) fun x w1 => Wp (g w1) fun y w2 => ob (op x y) fun z => Q z w2 := wp_2gg
@[simp] theorem lz_2gp {op : D → D → Option D} {f : PM D} {q : Ev → Option D} : Wp (x2gp op f q w) Q ↔ Wp (f w) fun x w1 => ob (q w1) fun y => ob (op x y) fun z => Q z w1 := wp_2gp
@[simp] theorem lz_2vg {op : D → D → Option D} {j : Nat} {g : PM D} : Wp (x2vg op j g w) Q ↔ ob (slot w j) fun _ => Wp (g w) fun y w2 => ob (slot w2 j) fun x => ob (op x y) fun z => Q z w2 := by
  rw [wp_2vg]; unfold ob
  exact ⟨fun ⟨⟨x, h⟩, h2⟩ => ⟨x, h, h2⟩, fun ⟨x, h, h2⟩ => ⟨⟨x, h⟩, h2⟩⟩
@[simp] theorem lz_2pp {op : D → D → Option D} {q1 q2 : Ev → Option D} : Wp (x2pp op q1 q2 w) Q ↔ ob (q1 w) fun x => ob (q2 w) fun y => ob (op x y) fun z => Q z w := wp_2pp
@[simp] theorem lz_tup {f : PM (List D)} : Wp (xTup f w) Q ↔ Wp (f w) fun ds w1 => ds.length ≤ sizeLine ∧ Q (.tup ds) w1 := by
  rw [wp_tup]
  refine ⟨fun h => h.mono fun ds w h => ?_, fun h => h.mono fun ds w h => ?_⟩
  · obtain ⟨z, e, q⟩ := h
    unfold mkTup at e
    by_cases c : ds.length ≤ sizeLine
    · rw [if_pos c] at e; cases e; exact ⟨c, q⟩
    · rw [if_neg c] at e; cases e
  · exact ⟨_, if_pos h.1, h.2⟩
@[simp] theorem lz_own {f : PM (List D)} : Wp (xOwn f w) Q ↔ Wp (f w) fun ds w1 => ds.length ≤ sizeLine ∧ Q (.own ds) w1 := by
  rw [wp_own]
  refine ⟨fun h => h.mono fun ds w h => ?_, fun h => h.mono fun ds w h => ?_⟩
  · obtain ⟨z, e, q⟩ := h
    unfold mkOwn at e
    by_cases c : ds.length ≤ sizeLine
    · rw [if_pos c] at e; cases e; exact ⟨c, q⟩
    · rw [if_neg c] at e; cases e
  · exact ⟨_, if_pos h.1, h.2⟩
@[simp] theorem line0 : (0 : Nat) ≤ sizeLine := Nat.zero_le _
@[simp] theorem line1 : (1 : Nat) ≤ sizeLine := Nat.le_trans (by decide) big
@[simp] theorem line2 : (2 : Nat) ≤ sizeLine := Nat.le_trans (by decide) big
@[simp] theorem line3 : (3 : Nat) ≤ sizeLine := Nat.le_trans (by decide) big
@[simp] theorem line4 : (4 : Nat) ≤ sizeLine := Nat.le_trans (by decide) big
@[simp] theorem lz_Bl {f : PM D} : Wp (tBl f w) QB ↔ Wp (f w) fun d w1 => ob (blD d) fun b => QB b w1 := by
  rw [wp_Bl]; simp only [ob_bl]
@[simp] theorem lz_Tru {f : PM D} : Wp (tTru f w) QB ↔ Wp (f w) fun d w1 => ob (truD d) fun b => QB b w1 := wp_Tru
@[simp] theorem lz_TruP {q : Ev → Option D} : Wp (tTruP q w) QB ↔ ob (q w) fun d => ob (truD d) fun b => QB b w := wp_TruP
@[simp] theorem lz_xAnd {f g : PM D} : Wp (xAnd f g w) Q ↔ Wp (f w) fun d w1 => ob (blD d) fun b => brQ b (Wp (g w1) Q) (Q (.bl false) w1) := by
  rw [wp_xAnd]; simp only [ob_bl]; rfl
@[simp] theorem lz_xOr {f g : PM D} : Wp (xOr f g w) Q ↔ Wp (f w) fun d w1 => ob (blD d) fun b => brQ b (Q (.bl true) w1) (Wp (g w1) Q) := by
  rw [wp_xOr]; simp only [ob_bl]; rfl
@[simp] theorem lz_xIf {t : PM Bool} {f g : PM D} : Wp (xIf t f g w) Q ↔ Wp (t w) fun b w1 => brQ b (Wp (f w1) Q) (Wp (g w1) Q) := wp_xIf
@[simp] theorem lz_AndF {t u : PM Bool} : Wp (tAndF t u w) QB ↔ Wp (t w) fun b w1 => brQ b (Wp (u w1) QB) (QB false w1) := wp_AndF
@[simp] theorem lz_OrF {t u : PM Bool} : Wp (tOrF t u w) QB ↔ Wp (t w) fun b w1 => brQ b (QB true w1) (Wp (u w1) QB) := wp_OrF
@[simp] theorem lz_If {t : PM Bool} {f g : PM Fl} : Wp (sIf t f g w) QS ↔ Wp (t w) fun b w1 => brQ b (Wp (f w1) QS) (Wp (g w1) QS) := wp_If
@[simp] theorem ownD_own {xs : List D} : ownD (.own xs) = some xs := rfl
theorem ob_own {o : Option D} {P : List D → Prop} : (∃ xs, o = some (.own xs) ∧ P xs) ↔ ob o fun d => ob (ownD d) P := by
  unfold ob
  constructor
  · rintro ⟨xs, h, p⟩; exact ⟨_, h, xs, rfl, p⟩
  · rintro ⟨d, h, xs, h2, p⟩; exact ⟨xs, by rw [h, ownD_some h2], p⟩
@[simp] theorem lz_App {j : Nat} {f : PM D} : Wp (xApp j f w) Q ↔ (ob (slot w j) fun d0 => ob (ownD d0) fun _ => Wp (f w) fun d w1 => ob (slot w1 j) fun x => ob (ownD x) fun xs => xs.length < sizeLine ∧ Q .non (w1.set j (some (.own (xs ++ [d]))))) := by
  rw [wp_App]; simp only [ob_own]
  rw [← ob_own]
  exact ⟨fun ⟨⟨x, h⟩, h2⟩ => ⟨x, h, h2⟩, fun ⟨x, h, h2⟩ => ⟨⟨x, h⟩, h2⟩⟩
@[simp] theorem intD_int {i : Int} : intD (.int i) = some i := rfl
theorem ob_int {d : D} {P : Int → Prop} : (∃ i, d = .int i ∧ P i) ↔ ob (intD d) P := by
  cases d <;> simp [ob, intD]
@[simp] theorem lz_PopAt {j : Nat} {f : PM D} : Wp (xPopAt j f w) Q ↔ (ob (slot w j) fun d0 => ob (ownD d0) fun _ => Wp (f w) fun d w1 => ob (slot w1 j) fun x => ob (ownD x) fun xs => ob (intD d) fun i => ob (ixN xs.length i) fun k => ob xs[k]? fun y => xs.length ≤ sizeLine ∧ Q y (w1.set j (some (.own (xs.eraseIdx k))))) := by
  rw [wp_PopAt]
  have e : (∃ xs0, slot w j = some (.own xs0)) ↔ ∃ xs0, slot w j = some (.own xs0) ∧ True := by simp
  rw [← ob_own]
  refine ⟨fun ⟨⟨x, h⟩, h2⟩ => ⟨x, h, h2.mono ?_⟩, fun ⟨x, h, h2⟩ => ⟨⟨x, h⟩, h2.mono ?_⟩⟩
  · rintro d w1 ⟨xs, i, k, y, a1, rfl, a3, a4, a5⟩
    rw [← ob_own]
    exact ⟨xs, a1, i, rfl, k, a3, y, a4, a5⟩
  · intro d w1 hh
    rw [← ob_own] at hh
    obtain ⟨xs, a1, i, a2, k, a3, y, a4, a5⟩ := hh
    exact ⟨xs, i, k, y, a1, intD_some a2, a3, a4, a5⟩
@[simp] theorem lz_RngL {f : PM D} : Wp (xRngL f w) Q ↔ Wp (f w) fun d w1 => ob (dRng d) fun z => Q z w1 := wp_RngL
@[simp] theorem lz_bS {f : PM D} {QO : Option Int → Ev → Prop} : Wp (bS f w) QO ↔ Wp (f w) fun d w1 => ob (intD d) fun i => QO (some i) w1 := by
  rw [wp_bS]; simp only [ob_int]
@[simp] theorem lz_Slg {f : PM D} {l u : PM (Option Int)} : Wp (xSlg f l u w) Q ↔ Wp (f w) fun d w1 => Wp (l w1) fun lo w2 => Wp (u w2) fun hi w3 => ob (dSl d lo hi) fun z => Q z w3 := wp_Slg
@[simp] theorem lz_Slv {j : Nat} {l u : PM (Option Int)} : Wp (xSlv j l u w) Q ↔ ob (slot w j) fun _ => Wp (l w) fun lo w2 => Wp (u w2) fun hi w3 => ob (slot w3 j) fun d => ob (dSl d lo hi) fun z => Q z w3 := by
  rw [wp_Slv]; unfold ob
  exact ⟨fun ⟨⟨x, h⟩, h2⟩ => ⟨x, h, h2⟩, fun ⟨x, h, h2⟩ => ⟨⟨x, h⟩, h2⟩⟩
@[simp] theorem lz_rt {io : List Nat} {QR : D → List D → Prop} {d : D} : endQ io QR (.rt d) w ↔ ob (outsOf io w) fun os => QR d os := .rfl
@[simp] theorem lz_nx {io : List Nat} {QR : D → List D → Prop} : endQ io QR .nx w ↔ ob (outsOf io w) fun os => QR .non os := .rfl
@[simp] theorem lz_outs {k : Nat} {io : List Nat} {P : List D → Prop} : ob (outsOf (k :: io) w) P ↔ ob (slot w k) fun d => ob (outsOf io w) fun ds => P (d :: ds) := by
  unfold ob
  simp only [outsOf_cons']
  constructor
  · rintro ⟨a, ⟨d, h, ds, h2, rfl⟩, p⟩; exact ⟨d, h, ds, h2, p⟩
  · rintro ⟨d, h, ds, h2, p⟩; exact ⟨_, ⟨d, h, ds, h2, rfl⟩, p⟩
@[simp] theorem lz_Set {i : Nat} {f : PM D} : Wp (sSet i f w) QS ↔ Wp (f w) fun d w1 => i < w1.length ∧ QS .nx (w1.set i (some d)) := wp_Set
@[simp] theorem lz_Aug {i : Nat} {op : D → D → Option D} {f : PM D} : Wp (sAug i op f w) QS ↔ ob (slot w i) fun d0 => pl d0 = true ∧ Wp (f w) fun d w1 => ob (op d0 d) fun z => i < w1.length ∧ QS .nx (w1.set i (some z)) := wp_Aug
@[simp] theorem lz_SetI {j : Nat} {f g : PM D} : Wp (sSetI j f g w) QS ↔ Wp (f w) fun d w1 => ob (slot w1 j) fun _ => Wp (g w1) fun i w2 => ob (slot w2 j) fun x => ob (ownD x) fun xs => ob (intD i) fun n => ob (ixN xs.length n) fun k => QS .nx (w2.set j (some (.own (xs.set k d)))) := by
  rw [wp_SetI]
  refine ⟨fun h => h.mono ?_, fun h => h.mono ?_⟩
  · rintro d w1 ⟨⟨x, h⟩, h2⟩
    refine ⟨x, h, h2.mono ?_⟩
    rintro i w2 ⟨xs, n, k, a1, rfl, a3, a4⟩
    rw [← ob_own]
    exact ⟨xs, a1, n, rfl, k, a3, a4⟩
  · rintro d w1 ⟨x, h, h2⟩
    refine ⟨⟨x, h⟩, h2.mono ?_⟩
    intro i w2 hh
    rw [← ob_own] at hh
    obtain ⟨xs, a1, n, a2, k, a3, a4⟩ := hh
    exact ⟨xs, n, k, a1, intD_some a2, a3, a4⟩
@[simp] theorem lz_iW {k : List D → Option (List D × List D)} {f : PM (List D)} {QP : List D × List D → Ev → Prop} : Wp (iW k f w) QP ↔ Wp (f w) fun ds w1 => ob (k ds) fun p => QP p w1 := wp_iW
@[simp] theorem lz_qG {d : D} {P : List D × List D → Prop} : ob (qG [d]) P ↔ ob (seqP d) fun xs => P (xs, [d]) := by
  show ob ((seqP d).map _) P ↔ _; simp
@[simp] theorem lz_qEn {d : D} {P : List D × List D → Prop} : ob (qEn [d]) P ↔ ob (seqP d) fun xs => P (enumD xs, [d]) := by
  show ob ((seqP d).map _) P ↔ _; simp
@[simp] theorem lz_qR1 {n : Int} {P : List D × List D → Prop} : ob (qR1 [.int n]) P ↔ rngC n = true ∧ P (rngD n.toNat, []) := by
  show ob (if rngC n = true then some (rngD n.toNat, []) else none) P ↔ _; simp
@[simp] theorem lz_qR2 {lo hi : Int} {P : List D × List D → Prop} : ob (qR2 [.int lo, .int hi]) P ↔ (rngC lo = true ∧ rngC hi = true) ∧ P (rngD2 lo (hi - lo).toNat, []) := by
  show ob (if rngC lo = true ∧ rngC hi = true then some (rngD2 lo (hi - lo).toNat, []) else none) P ↔ _; simp
@[simp] theorem lz_qZpT {xs ys : List D} {P : List D × List D → Prop} : ob (qZp [.tup xs, .tup ys]) P ↔ pls xs = true ∧ pls ys = true ∧ P (zipD xs ys, [.tup xs, .tup ys]) := by
  unfold ob
  constructor
  · rintro ⟨a, h, p⟩
    obtain ⟨h1, h2, rfl⟩ := qZp_eqT.mp h
    exact ⟨h1, h2, p⟩
  · rintro ⟨h1, h2, p⟩
    exact ⟨_, qZp_eqT.mpr ⟨h1, h2, rfl⟩, p⟩
/-- a loop's target -/
@[simp] theorem beq_dec {i j : Int} : (i == j) = decide (i = j) := by
  by_cases h : i = j <;> simp [h]
@[simp] theorem lz_sE {i : Nat} {d : D} {P : Ev → Prop} : ob (setE w i d) P ↔ i < w.length ∧ P (w.set i (some d)) := by
  unfold setE; simp
@[simp] theorem lz_nm {i : Nat} {d : D} {P : Ev → Prop} : ob (setT (.nm i) d w) P ↔ i < w.length ∧ P (w.set i (some d)) := by
  show ob (setE w i d) P ↔ _
  unfold setE; simp
@[simp] theorem lz_tp {is : List Nat} {xs : List D} {P : Ev → Prop} : ob (setT (.tp is) (.tup xs) w) P ↔ ob (setA is xs w) P := .rfl
@[simp] theorem lz_sA {i : Nat} {is : List Nat} {d : D} {ds : List D} {P : Ev → Prop} : ob (setA (i :: is) (d :: ds) w) P ↔ i < w.length ∧ ob (setA is ds (w.set i (some d))) P := by
  show ob ((setE w i d).bind (setA is ds)) P ↔ _
  unfold setE
  by_cases c : i < w.length <;> simp [c]
theorem lz_for {tg : Tgt} {body : PM Fl} {items : List D} (I : Nat → Ev → Prop) (h0 : I 0 w) (he : ∀ w, I items.length w → QS .nx w)
    (hs : ∀ i d w, items[i]? = some d → I i w → ob (setT tg d w) fun w1 => Wp (body w1) (loopQ (I (i + 1)) QS)) : Wp (forL tg body items w) QS := wp_for0 I h0 he hs
theorem lz_cmp {tg : Tgt} {c : PM Bool} {elt : PM D} {vs : List Nat} {items : List D} (I : Nat → List D → Ev → Prop) (h0 : I 0 [] w) (he : ∀ acc w, I items.length acc w → QL acc w)
    (hs : ∀ i d acc w, items[i]? = some d → I i acc w → ob (setT tg d (wipeE w vs)) fun w1 => Wp (c w1) fun b w2 => brQ b (Wp (elt w2) fun e w3 => acc.length < sizeLine ∧ I (i + 1) (acc ++ [e]) w3) (I (i + 1) acc w2)) : Wp (cmpL tg c elt vs items [] w) QL := wp_cmp0 I h0 he hs
end
end Pm

set_option autoImplicit false
namespace Pm
open PySem PySem.Spec L2
section
variable {w : Ev} {Q : D → Ev → Prop} {QL : List D → Ev → Prop} {QB : Bool → Ev → Prop} {QS : Fl → Ev → Prop}
@[simp] theorem lz_Cal {np : Nat} {js : List (Option Nat)} {m : List D → Rd} {f : PM (List D)} : Wp (xCal np js m f w) Q ↔ Wp (f w) fun ds w1 => ds.length = np ∧ WpR (m ds) fun d outs => Q d (putB js outs w1) := by
  unfold xCal; simp only [wp_bind]
  refine ⟨fun h => h.mono fun ds w h => ?_, fun h => h.mono fun ds w h => ?_⟩
  · by_cases c : ds.length = np
    · rw [if_pos c] at h
      cases e : m ds with
      | ok d os => rw [e] at h; exact ⟨c, d, os, rfl, by simpa using h⟩
      | ex _ _ _ => rw [e] at h; simp at h
      | bad => rw [e] at h; simp at h
    · rw [if_neg c] at h; simp at h
  · obtain ⟨c, d, os, e, h⟩ := h
    rw [if_pos c, e]; simpa using h
@[simp] theorem lz_Comp2 {ks ks1 : List (Option Nat)} {it it1 : PM (List D × List D)} {tg tg1 : Tgt} {c c1 : PM Bool} {elt : PM D} {vs vs1 : List Nat} : Wp (xComp2 ks it tg c ks1 it1 tg1 c1 elt vs vs1 w) Q ↔ Wp (it w) fun p w1 => Wp (cmpL2 tg c ks1 it1 tg1 c1 elt vs vs1 p.1 [] w1) fun acc w2 => Q (.own acc) (putB ks p.2 (wipeE w2 vs)) := by
  unfold xComp2; simp [wp_bind, wp_bindN]
theorem wp_cmp2 {tg tg1 : Tgt} {c c1 : PM Bool} {ks1 : List (Option Nat)} {it1 : PM (List D × List D)} {elt : PM D} {vs vs1 : List Nat} (I : Nat → List D → Ev → Prop) : ∀ {items acc : List D} {n : Nat} {w : Ev}, I n acc w → (∀ acc w, I (n + items.length) acc w → QL acc w) →
    (∀ i d acc w, items[i]? = some d → I (n + i) acc w → ob (setT tg d (wipeE w vs)) fun w1 => Wp (c w1) fun b w2 => brQ b (Wp (it1 w2) fun p w3 => Wp (cmpL tg1 c1 elt vs1 p.1 acc w3) fun acc2 w4 => I (n + i + 1) acc2 (putB ks1 p.2 (wipeE w4 vs1))) (I (n + i + 1) acc w2)) → Wp (cmpL2 tg c ks1 it1 tg1 c1 elt vs vs1 items acc w) QL
  | [], acc, n, w, h0, he, hs => by
    unfold cmpL2; rw [wp_ok]; exact he acc w h0
  | d :: ds, acc, n, w, h0, he, hs => by
    obtain ⟨w1, e1, h1⟩ := hs 0 d acc w rfl h0
    unfold cmpL2
    rw [e1]
    simp only [wp_bindN]
    refine h1.mono fun b w2 h2 => ?_
    have rcd : ∀ {acc w2}, I (n + 1) acc w2 → Wp (cmpL2 tg c ks1 it1 tg1 c1 elt vs vs1 ds acc w2) QL := fun {acc w2} h => wp_cmp2 I h (fun acc w hw => he acc w (by rw [List.length_cons]; rw [show n + (ds.length + 1) = n + 1 + ds.length by omega]; exact hw)) fun i d' acc w' hi hw => by
      have := hs (i + 1) d' acc w' (by rw [List.getElem?_cons_succ]; exact hi) (by rw [show n + (i + 1) = n + 1 + i by omega]; exact hw)
      rw [show n + (i + 1) + 1 = n + 1 + i + 1 by omega] at this
      exact this
    cases b with
    | false => rw [if_neg (by decide)]; exact rcd (by simpa using h2)
    | true =>
      rw [if_pos rfl]
      simp only [wp_bindN]
      have h3 := brQ_t.mp h2
      refine h3.mono fun p w3 h4 => h4.mono fun acc2 w4 h5 => rcd h5
theorem lz_cmp2 {tg tg1 : Tgt} {c c1 : PM Bool} {ks1 : List (Option Nat)} {it1 : PM (List D × List D)} {elt : PM D} {vs vs1 : List Nat} {items : List D} (I : Nat → List D → Ev → Prop) (h0 : I 0 [] w) (he : ∀ acc w, I items.length acc w → QL acc w)
    (hs : ∀ i d acc w, items[i]? = some d → I i acc w → ob (setT tg d (wipeE w vs)) fun w1 => Wp (c w1) fun b w2 => brQ b (Wp (it1 w2) fun p w3 => Wp (cmpL tg1 c1 elt vs1 p.1 acc w3) fun acc2 w4 => I (i + 1) acc2 (putB ks1 p.2 (wipeE w4 vs1))) (I (i + 1) acc w2)) : Wp (cmpL2 tg c ks1 it1 tg1 c1 elt vs vs1 items [] w) QL :=
  wp_cmp2 I h0 (fun acc w h => he acc w (by rw [Nat.zero_add] at h; exact h)) fun i d acc w hi h => by
    rw [Nat.zero_add] at h ⊢; exact hs i d acc w hi h
/-- a comprehension that starts with something in its list -/
theorem lz_cmpA {tg : Tgt} {c : PM Bool} {elt : PM D} {vs : List Nat} {items acc0 : List D} (I : Nat → List D → Ev → Prop) (h0 : I 0 acc0 w) (he : ∀ acc w, I items.length acc w → QL acc w)
    (hs : ∀ i d acc w, items[i]? = some d → I i acc w → ob (setT tg d (wipeE w vs)) fun w1 => Wp (c w1) fun b w2 => brQ b (Wp (elt w2) fun e w3 => acc.length < sizeLine ∧ I (i + 1) (acc ++ [e]) w3) (I (i + 1) acc w2)) : Wp (cmpL tg c elt vs items acc0 w) QL :=
  wp_cmp I h0 (fun acc w h => he acc w (by rw [Nat.zero_add] at h; exact h)) fun i d acc w hi h => by
    rw [Nat.zero_add] at h ⊢; exact hs i d acc w hi h
/-- while: a number that gets smaller -/
theorem lz_while {t : PM Bool} {body : PM Fl} (I : Nat → Ev → Prop) {n : Nat} (h0 : I n w)
    (hs : ∀ n w, I n w → Wp (t w) fun b w1 => brQ b (Wp (body w1) (loopQ (fun w2 => ∃ m, m < n ∧ I m w2) QS)) (QS .nx w1)) : Wp (sWh t body w) QS := by
  have key : ∀ (n : Nat) (w : Ev), I n w → ∃ k, Wp (whL t body k w) QS := fun n => by
    induction n using Nat.strongRecOn with
    | ind n ih =>
      intro w h
      obtain ⟨b, w1, e1, h1⟩ := hs n w h
      cases b with
      | false => exact ⟨1, by unfold whL; rw [e1]; simpa using h1⟩
      | true =>
        obtain ⟨fl, w2, e2, h2⟩ := brQ_t.mp h1
        have fin : ∀ k, whL t body (k + 1) w = ((body w1).bind fun fl w2 => match fl with
            | .nx => whL t body k w2
            | .ct => whL t body k w2
            | .bk => .ok .nx w2
            | .rt v => .ok (.rt v) w2) := fun k => by
          conv => lhs; unfold whL
          rw [e1, Rs.bind_ok, if_pos rfl]
          all_goals (generalize body w1 = r; rcases r with ⟨fl, w3⟩ | _ | _ <;> first | rfl | (cases fl <;> rfl))
        cases fl with
        | nx =>
          obtain ⟨m, hm, hi⟩ := h2
          obtain ⟨k, hk⟩ := ih m hm w2 hi
          exact ⟨k + 1, by rw [fin k, e2]; exact hk⟩
        | ct =>
          obtain ⟨m, hm, hi⟩ := h2
          obtain ⟨k, hk⟩ := ih m hm w2 hi
          exact ⟨k + 1, by rw [fin k, e2]; exact hk⟩
        | bk => exact ⟨1, by rw [fin 0, e2]; exact wp_ok.mpr h2⟩
        | rt v => exact ⟨1, by rw [fin 0, e2]; exact wp_ok.mpr h2⟩
  obtain ⟨k, hk⟩ := key n w h0
  have nb : whL t body k w ≠ .bad := fun e => by rw [e] at hk; simp at hk
  rw [sWh_eq k nb]; exact hk
@[simp] theorem dSorted_tup {ns : List Int} : dSorted (.tup (ns.map .int)) = some (.own ((sortI ns).map .int)) := by
  show (some (ns.map D.int)).bind _ = _
  rw [Option.bind_some, intsD_ints]; rfl
@[simp] theorem dSorted_lst {ns : List Int} : dSorted (.lst (ns.map .int)) = some (.own ((sortI ns).map .int)) := dSorted_tup
@[simp] theorem dSorted_own {ns : List Int} : dSorted (.own (ns.map .int)) = some (.own ((sortI ns).map .int)) := dSorted_tup
end
end Pm

set_option autoImplicit false
namespace Pm
open PySem PySem.Spec L2
@[simp] theorem seqIx_0 {a : D} {l : List D} : seqIx (a :: l) 0 = if pl a = true then some a else none := by
  unfold seqIx; rw [show atI (a :: l) 0 = some a from atI_nat (j := 0) rfl]
@[simp] theorem seqIx_1 {a b : D} {l : List D} : seqIx (a :: b :: l) 1 = if pl b = true then some b else none := by
  unfold seqIx; rw [show atI (a :: b :: l) 1 = some b from atI_nat (j := 1) rfl]
@[simp] theorem seqIx_2 {a b c : D} {l : List D} : seqIx (a :: b :: c :: l) 2 = if pl c = true then some c else none := by
  unfold seqIx; rw [show atI (a :: b :: c :: l) 2 = some c from atI_nat (j := 2) rfl]
@[simp] theorem seqIx_3 {a b c d : D} {l : List D} : seqIx (a :: b :: c :: d :: l) 3 = if pl d = true then some d else none := by
  unfold seqIx; rw [show atI (a :: b :: c :: d :: l) 3 = some d from atI_nat (j := 3) rfl]
@[simp] theorem ixN_40 : ixN 4 0 = some 0 := rfl
@[simp] theorem ixN_41 : ixN 4 1 = some 1 := rfl
@[simp] theorem ixN_42 : ixN 4 2 = some 2 := rfl
@[simp] theorem ixN_43 : ixN 4 3 = some 3 := rfl
@[simp] theorem ixN_20 : ixN 2 0 = some 0 := rfl
@[simp] theorem ixN_21 : ixN 2 1 = some 1 := rfl
theorem mulC_of {i j : Int} (h : i.natAbs < 2 ^ 4000) (h2 : j.natAbs < 2 ^ 4000) : mulC i j = true := by
  unfold mulC
  rw [decide_eq_true_iff]
  have a : ∀ n : Nat, n < 2 ^ 4000 → n.log2 < 4000 := fun n hn => by
    by_cases z : n = 0
    · subst z; decide
    · exact (Nat.log2_lt z).mpr hn
  have := a _ h
  have := a _ h2
  omega
theorem p4000 : (1000000000000000000000 : Nat) < 2 ^ 4000 := by decide +kernel
theorem mulC_s {i j : Int} (h : -1000000000000000000 ≤ i) (h' : i ≤ 1000000000000000000) (h2 : -1000000000000000000 ≤ j) (h2' : j ≤ 1000000000000000000) : mulC i j = true :=
  mulC_of (Nat.lt_trans (by omega) p4000) (Nat.lt_trans (by omega) p4000)
theorem pow18 : powC 10 18 = true := by decide +kernel
theorem pow60 : powC 10 60 = true := by decide +kernel
theorem pow600 : powC (10 ^ 60) 10 = true := by decide +kernel
theorem pow6 : powC 10 6 = true := by decide +kernel
@[simp] theorem modC_eq {i j : Int} : modC i j = true ↔ 0 < j := by unfold modC; simp
@[simp] theorem divC_eq {i j : Int} : divC i j = true ↔ 0 < j ∧ j < 1073741824 := by unfold divC; simp
def Fd (d : D) : Prop := ∃ (ns : List Int) (p : Nat) (b s : Int), d = .own [.lst (ns.map .int), .int p, .int b, .int s] ∧ 0 ≤ b ∧ 0 ≤ s ∧ s < 2147483647
theorem Fd.mk {ns : List Int} {p : Nat} {b s : Int} (h1 : 0 ≤ b) (h2 : 0 ≤ s) (h3 : s < 2147483647) : Fd (.own [.lst (ns.map .int), .int p, .int b, .int s]) := ⟨ns, p, b, s, rfl, h1, h2, h3⟩
def DrawQ (m : Int) : D → List D → Prop := fun d os => ∃ v f', d = .int v ∧ os = [f'] ∧ 0 ≤ v ∧ v < m ∧ Fd f'
theorem p600 : (0 : Int) < (10 ^ 60) ^ 10 := by decide +kernel
theorem p18 : (10 : Int) ^ 18 = 1000000000000000000 := by decide +kernel
@[simp] theorem kQ_fd {f : D} {Q : D → Ev → Prop} {j : Nat} {w : Ev} (h : Fd f) : kQ Q j w f ↔ Q f (w.set j none) := by
  obtain ⟨ns, p, b, s, rfl, _⟩ := h; exact kQ_own
def SizeQ : D → List D → Prop := fun d os => ∃ v f', d = .int v ∧ os = [f'] ∧ 1 ≤ v ∧ v ≤ 1000000 ∧ Fd f'
theorem toNat_range {n : Int} (i : Nat) {d : D} (h : (rngD n.toNat)[i]? = some d) : d = .int i ∧ (i : Int) < n := by
  have e := rngD_get h
  have l : i < (rngD n.toNat).length := by
    rw [List.getElem?_eq_some_iff] at h; exact h.1
  rw [rngD_len] at l
  exact ⟨by rw [e, Int.zero_add], by omega⟩
theorem line {n : Nat} (h : n ≤ 1000000) : n ≤ sizeLine := Nat.le_trans h big
theorem line' {n : Nat} (h : n < 1000000) : n < sizeLine := Nat.lt_of_lt_of_le h big
def RowQ (n : Int) : D → List D → Prop := fun d os => ∃ (r : List Int) (f' : D), d = .tup (r.map .int) ∧ os = [f'] ∧ (r.length : Int) = n ∧ Fd f'
def intsTo (n : Nat) : List Int := (List.range n).map fun (i : Nat) => (i : Int)
theorem rngD_ints (n : Nat) : rngD n = (intsTo n).map D.int := by unfold rngD intsTo; rw [List.map_map]; rfl
theorem intsTo_len (n : Nat) : (intsTo n).length = n := by unfold intsTo; simp
theorem intsTo_mem {n : Nat} {i : Int} : i ∈ intsTo n ↔ 0 ≤ i ∧ i < n := by
  unfold intsTo
  simp only [List.mem_map, List.mem_range]
  constructor
  · rintro ⟨a, h, rfl⟩; omega
  · intro h; exact ⟨i.toNat, by omega, by omega⟩
theorem intsTo_nd (n : Nat) : (intsTo n).Nodup := by
  unfold intsTo
  unfold List.Nodup
  rw [List.pairwise_map]
  exact List.Pairwise.imp (fun h e => h (by omega)) (List.nodup_range (n := n))
def IsOrd (n : Nat) (o : List Int) : Prop := o.Nodup ∧ o.length = n ∧ ∀ i ∈ o, 0 ≤ i ∧ i < (n : Int)
theorem isOrd_of {n : Nat} {o : List Int} (h : o.Perm (intsTo n)) : IsOrd n o := ⟨h.nodup_iff.mpr (intsTo_nd n), by rw [h.length_eq, intsTo_len], fun i m => intsTo_mem.mp (h.mem_iff.mp m)⟩
theorem ixN_at {n : Nat} {i : Int} (h : 0 ≤ i) (h2 : i < n) : ixN n i = some i.toNat := by
  unfold ixN; rw [if_pos h, if_pos h2]
theorem ints_get {l : List Int} {k : Nat} (h : k < l.length) : (l.map D.int)[k]? = some (.int l[k]) := by
  rw [List.getElem?_map, List.getElem?_eq_getElem h]; rfl
theorem get_erase {α : Type} : ∀ {l : List α} {k : Nat} (hk : k < l.length), (l[k] :: l.eraseIdx k).Perm l
  | [], k, hk => absurd hk (Nat.not_lt_zero _)
  | a :: l, 0, hk => List.Perm.refl _
  | a :: l, k + 1, hk => by
    have hk' : k < l.length := Nat.lt_of_succ_lt_succ hk
    have ih := get_erase hk'
    show (l[k] :: a :: l.eraseIdx k).Perm (a :: l)
    exact (List.Perm.swap a _ _).trans (List.Perm.cons a ih)
theorem perm_pop {o l : List Int} {k : Nat} {z : List Int} (hk : k < l.length) (h : (o ++ l).Perm z) : ((o ++ [l[k]]) ++ l.eraseIdx k).Perm z := by
  refine List.Perm.trans ?_ h
  rw [List.append_assoc]
  refine List.Perm.append_left o ?_
  exact get_erase hk
theorem map_erase {l : List Int} {k : Nat} : (l.map D.int).eraseIdx k = (l.eraseIdx k).map D.int := by
  induction l generalizing k with
  | nil => rfl
  | cons a l ih =>
    cases k with
    | zero => rfl
    | succ k => show D.int a :: (l.map D.int).eraseIdx k = D.int a :: (l.eraseIdx k).map D.int; rw [ih]
def OrdQ (n : Nat) : D → List D → Prop := fun d os => ∃ (o : List Int) (f' : D), d = .tup (o.map .int) ∧ os = [f'] ∧ IsOrd n o ∧ Fd f'
def atR (r : List Int) (i : Int) : Int := r.getD i.toNat 0
def bel (r : List Int) : List Int → Bool
  | [] => false
  | i :: o => if atR r i = 0 then bel r o else decide (atR r i < 0)
theorem seqIx_at {r : List Int} {i : Int} (h : 0 ≤ i) (h2 : i < r.length) : seqIx (r.map D.int) i = some (.int (atR r i)) := by
  have e : i = ((i.toNat : Nat) : Int) := by omega
  have hk : i.toNat < r.length := by omega
  rw [show seqIx (r.map D.int) i = seqIx (r.map D.int) ((i.toNat : Nat) : Int) by rw [← e]]
  rw [seqIx_ints (List.getElem?_eq_getElem hk)]
  unfold atR
  rw [List.getD_eq_getElem?_getD, List.getElem?_eq_getElem hk]; rfl
def BlQ (b : Bool) : D → List D → Prop := fun d os => d = .bl b ∧ os = []
theorem ints_at {o : List Int} {i : Nat} {d : D} (h : (o.map D.int)[i]? = some d) : ∃ hi : i < o.length, d = .int o[i] := by
  rw [List.getElem?_map] at h
  obtain ⟨a, h1, h2⟩ := Option.map_eq_some_iff.mp h
  obtain ⟨hi, e⟩ := List.getElem?_eq_some_iff.mp h1
  exact ⟨hi, by rw [← h2, e]⟩
theorem bel_drop {r o : List Int} {i : Nat} (hi : i < o.length) : bel r (o.drop i) = if atR r o[i] = 0 then bel r (o.drop (i + 1)) else decide (atR r o[i] < 0) := by
  rw [List.drop_eq_getElem_cons hi]; rfl
@[simp] theorem dSl_tup {xs : List D} {lo hi : Option Int} : dSl (.tup xs) lo hi = if pls xs = true then some (.tup (cutD xs lo hi)) else none := rfl
@[simp] theorem dSl_lst {xs : List D} {lo hi : Option Int} : dSl (.lst xs) lo hi = if pls xs = true then some (.own (cutD xs lo hi)) else none := rfl
@[simp] theorem dSl_own {xs : List D} {lo hi : Option Int} : dSl (.own xs) lo hi = if pls xs = true then some (.own (cutD xs lo hi)) else none := rfl
theorem cutD_from {xs : List D} (k : Nat) : cutD xs (some (k : Int)) none = xs.drop k := by
  unfold cutD
  rw [show HT.sIx xs.length 0 (some (k : Int)) = min k xs.length from HT.sIx_nat xs.length 0 k, HT.sIx_none]
  by_cases h : k ≤ xs.length
  · rw [Nat.min_eq_left h, List.take_of_length_le (by rw [List.length_drop]; omega)]
  · rw [Nat.min_eq_right (by omega), List.drop_eq_nil_of_le (show xs.length ≤ k by omega)]; simp
theorem cutD_to {xs : List D} (k : Nat) : cutD xs none (some (k : Int)) = xs.take k := by
  unfold cutD
  rw [show HT.sIx xs.length xs.length (some (k : Int)) = min k xs.length from HT.sIx_nat xs.length xs.length k, HT.sIx_none]
  simp
theorem wp_mid {f g : PM Fl} {w : Ev} {QS : Fl → Ev → Prop} (M : Ev → Prop) (h1 : Wp (f w) fun fl w => fl = .nx ∧ M w) (h2 : ∀ w, M w → Wp (g w) QS) : Wp (sSeq f g w) QS := by
  rw [wp_Seq]
  refine h1.mono ?_
  rintro fl w ⟨rfl, m⟩
  exact h2 w m
theorem cmp_const {c : D} {j : Nat} {items : List D} {w : Ev} {QL : List D → Ev → Prop} (hj : j < w.length) (hl : items.length ≤ 1000000) (h : ∀ w2, w2.set j none = w.set j none → QL (items.map fun _ => c) w2) :
    Wp (cmpL (.nm j) tYesF (xC c) [j] items [] w) QL := by
  refine lz_cmp (fun i acc w2 => w2.set j none = w.set j none ∧ w2.length = w.length ∧ acc = List.replicate i c) ⟨rfl, rfl, rfl⟩ ?_ ?_
  · rintro acc w2 ⟨h1, _, h2⟩
    have := h w2 h1
    rw [List.map_const'] at this
    rw [h2]; exact this
  · rintro i d acc w2 hi ⟨h1, h2, h3⟩
    have il : i < items.length := (List.getElem?_eq_some_iff.mp hi).1
    simp [h2, hj, h3]
    exact ⟨Nat.lt_of_lt_of_le (by omega) big, h1, by rw [List.replicate_succ']⟩
def rowsD (rows : List (List Int)) : List D := rows.map fun r => D.tup (r.map D.int)
@[simp] theorem pls_rowsD {rows : List (List Int)} : pls (rowsD rows) = true := pls_rows
@[simp] theorem rowsD_len {rows : List (List Int)} : (rowsD rows).length = rows.length := by unfold rowsD; simp
theorem rowsD_at {rows : List (List Int)} {i : Nat} {d : D} (h : (rowsD rows)[i]? = some d) : ∃ hi : i < rows.length, d = .tup (rows[i].map .int) := by
  unfold rowsD at h
  rw [List.getElem?_map] at h
  obtain ⟨a, h1, h2⟩ := Option.map_eq_some_iff.mp h
  obtain ⟨hi, e⟩ := List.getElem?_eq_some_iff.mp h1
  exact ⟨hi, by rw [← h2, e]⟩
theorem rowsD_ix {rows : List (List Int)} {i : Nat} (h : i < rows.length) : seqIx (rowsD rows) (i : Int) = some (.tup (rows[i].map .int)) := seqIx_nat (by unfold rowsD; rw [List.getElem?_map, List.getElem?_eq_getElem h]; rfl) (by simp)
def InR (o r : List Int) : Prop := ∀ i ∈ o, 0 ≤ i ∧ i < (r.length : Int)
def DQ (d0 : D) : D → List D → Prop := fun d os => d = d0 ∧ os = []
theorem bel_zero {r : List Int} : ∀ {o : List Int}, (∀ i ∈ o, atR r i = 0) → bel r o = false
  | [], _ => rfl
  | i :: o, h => by
    show (if atR r i = 0 then bel r o else decide (atR r i < 0)) = false
    rw [if_pos (h i List.mem_cons_self)]
    exact bel_zero fun j m => h j (List.mem_cons_of_mem _ m)
theorem bel_lead {r : List Int} {v : Int} (hv : v ≠ 0) : ∀ {o : List Int} {p : Nat} (hp : p < o.length), (∀ q (hq : q < o.length), q < p → atR r o[q] = 0) → atR r o[p] = v → bel r o = decide (v < 0)
  | [], p, hp, _, _ => absurd hp (Nat.not_lt_zero _)
  | i :: o, 0, hp, h, e => by
    show (if atR r i = 0 then bel r o else decide (atR r i < 0)) = _
    have e' : atR r i = v := e
    rw [if_neg (by rw [e']; exact hv), e']
  | i :: o, p + 1, hp, h, e => by
    show (if atR r i = 0 then bel r o else decide (atR r i < 0)) = _
    have e0 : atR r i = 0 := h 0 (by simp) (by omega)
    rw [if_pos e0]
    exact bel_lead hv (p := p) (Nat.lt_of_succ_lt_succ hp) (fun q hq l => h (q + 1) (Nat.succ_lt_succ hq) (by omega)) e
theorem atR_set {r : List Int} {i j v : Int} (hi : 0 ≤ i) (hj : 0 ≤ j) : atR (r.set i.toNat v) j = if i = j ∧ i < r.length then v else atR r j := by
  unfold atR
  rw [List.getD_eq_getElem?_getD, List.getD_eq_getElem?_getD, List.getElem?_set]
  by_cases e : i = j
  · subst e
    by_cases l : i < r.length
    · rw [if_pos rfl, if_pos (by omega), if_pos ⟨rfl, l⟩]; rfl
    · rw [if_pos rfl, if_neg (by omega), if_neg (fun z => l z.2), List.getElem?_eq_none (by omega)]
  · rw [if_neg (by omega), if_neg (fun z => e z.1)]
theorem ints_set {r : List Int} {k : Nat} {v : Int} : (r.map D.int).set k (.int v) = (r.set k v).map D.int := by
  rw [List.map_set]
theorem ord_get {n : Nat} {o : List Int} (ho : IsOrd n o) {q : Nat} (hq : q < o.length) : 0 ≤ o[q] ∧ o[q] < (n : Int) := ho.2.2 _ (List.getElem_mem hq)
theorem ord_ne {n : Nat} {o : List Int} (ho : IsOrd n o) {p q : Nat} (hp : p < o.length) (hq : q < o.length) (h : p ≠ q) : o[p] ≠ o[q] := fun e => h ((List.getElem_inj ho.1).mp e)
theorem cmp_rng {e : PM D} {j : Nat} {n : Nat} {w : Ev} {QL : List D → Ev → Prop} (g : Nat → Int) (hj : j < w.length) (hl : n ≤ 1000000) (he : ∀ (i : Nat), i < n → Wp (e (w.set j (some (.int (i : Nat))))) fun d w3 => d = .int (g i) ∧ w3 = w.set j (some (.int (i : Nat)))) (h : ∀ (w2 : Ev), w2.set j none = w.set j none → w2.length = w.length → QL (((List.range n).map g).map D.int) w2) :
    Wp (cmpL (.nm j) tYesF e [j] (rngD n) [] w) QL := by
  refine lz_cmp (fun i acc w2 => w2.set j none = w.set j none ∧ w2.length = w.length ∧ acc = ((List.range i).map g).map D.int) ⟨rfl, rfl, rfl⟩ ?_ ?_
  · rintro acc w2 ⟨h1, h2, h3⟩
    rw [rngD_len] at h3
    rw [h3]; exact h w2 h1 h2
  · rintro i d acc w2 hi ⟨h1, h2, h3⟩
    have il : i < n := by have := (List.getElem?_eq_some_iff.mp hi).1; rw [rngD_len] at this; exact this
    have ed := rngD_get hi
    rw [Int.zero_add] at ed
    subst ed
    simp [h2, hj]
    have e1 : w2.set j (some (D.int (i : Nat))) = w.set j (some (D.int (i : Nat))) := by
      have := congrArg (fun z : Ev => z.set j (some (D.int (i : Nat)))) h1
      simpa using this
    rw [e1]
    refine Wp.mono (he i il) ?_
    rintro d w3 ⟨rfl, rfl⟩
    refine ⟨Nat.lt_of_lt_of_le (by rw [h3]; simp; omega) big, by simp, by simp, ?_⟩
    rw [h3, List.range_succ]; simp
theorem ord_in {n : Nat} {o r : List Int} (ho : IsOrd n o) (hr : r.length = n) : InR o r := fun i m => by
  have := ho.2.2 i m
  rw [hr]; exact this
def TruQ : D → List D → Prop := fun d os => ∃ f', d = .bl true ∧ os = [f'] ∧ Fd f'
theorem rowsD_app {a b : List (List Int)} : rowsD a ++ rowsD b = rowsD (a ++ b) := by unfold rowsD; rw [List.map_append]
theorem rowsD_one {a : List (List Int)} {r : List Int} : rowsD a ++ [.tup (r.map .int)] = rowsD (a ++ [r]) := by unfold rowsD; rw [List.map_append]; rfl
theorem rowsD_take {a : List (List Int)} {k : Nat} : (rowsD a).take k = rowsD (a.take k) := by unfold rowsD; rw [List.map_take]
theorem rowsD_drop {a : List (List Int)} {k : Nat} : (rowsD a).drop k = rowsD (a.drop k) := by unfold rowsD; rw [List.map_drop]
theorem ints_rv {K : PySem.W.Frag} {H : Hp} : ∀ ns : List Int, RVs K H (ns.map .int) (ns.map V.int) []
  | [] => ⟨rfl, rfl⟩
  | i :: ns => ⟨.int i, _, [], [], rfl, ⟨rfl, rfl⟩, ints_rv ns, rfl⟩
theorem fz_of {K : PySem.W.Frag} {H : Hp} {a : Addr} {vs : List V} (ho : Only H) (h : SqL K H a vs) : Fz K H a vs := by
  rcases h with (h | h) | h
  · rcases ho a with e | ⟨o, ys, e⟩
    · rw [h] at e; cases e
    · rw [h] at e; cases e
  · exact .inl h
  · exact .inr h
end Pm

set_option autoImplicit false
namespace K16
open PySem PySem.Spec L2 Pm
def topS (i : Nat) : Stmt := PySem.Challenge.pw_nowhereworse_k16_free_and_strata.main.body.getD i (.Pass ⟨0, 0, 0, 0⟩)
abbrev s_is_nought : Stmt := topS 1
abbrev s_law_feed : Stmt := topS 8
abbrev s_law_draw : Stmt := topS 9
abbrev s_law_nought : Stmt := topS 18
abbrev s_law_same : Stmt := topS 21
abbrev s_free_rules : Stmt := topS 2
abbrev s_law_shuffled : Stmt := topS 10
abbrev s_law_size : Stmt := topS 11
abbrev s_law_free : Stmt := topS 19
abbrev s_law_same_sets : Stmt := topS 22
abbrev s_strata_of : Stmt := topS 4
abbrev s_law_lead : Stmt := topS 12
abbrev s_law_link : Stmt := topS 13
abbrev s_law_plain : Stmt := topS 14
abbrev s_law_bar_row : Stmt := topS 15
abbrev s_law_any_rows : Stmt := topS 17
abbrev s_law_strata : Stmt := topS 20
abbrev s_law_frees : Stmt := topS 23
abbrev s_reach_of : Stmt := topS 5
abbrev s_law_world : Stmt := topS 16
abbrev s_rest_of : Stmt := topS 6
abbrev s_law_asked : Stmt := topS 24
abbrev s_law : Stmt := topS 25
theorem sc_is_nought : FnScope ["row", "some", "rule"] ["row", "some"] (defScope s_is_nought) := ⟨rfl, rfl, rfl, by decide +kernel, rfl, by decide +kernel, by decide +kernel⟩
theorem sc_law_feed : FnScope ["script", "cells", "cell"] ["script"] (defScope s_law_feed) := ⟨rfl, rfl, rfl, by decide +kernel, rfl, by decide +kernel, by decide +kernel⟩
theorem sc_law_draw : FnScope ["feed", "many", "cell", "pick"] ["feed", "many"] (defScope s_law_draw) := ⟨rfl, rfl, rfl, by decide +kernel, rfl, by decide +kernel, by decide +kernel⟩
theorem sc_law_nought : FnScope ["row", "some", "rule"] ["row", "some"] (defScope s_law_nought) := ⟨rfl, rfl, rfl, by decide +kernel, rfl, by decide +kernel, by decide +kernel⟩
theorem sc_law_same : FnScope ["told", "due", "place", "one"] ["told", "due"] (defScope s_law_same) := ⟨rfl, rfl, rfl, by decide +kernel, rfl, by decide +kernel, by decide +kernel⟩
theorem sc_free_rules : FnScope ["many", "rows", "some", "tied", "told", "rule", "row"] ["many", "rows", "some"] (defScope s_free_rules) := ⟨rfl, rfl, rfl, by decide +kernel, rfl, by decide +kernel, by decide +kernel⟩
theorem sc_law_shuffled : FnScope ["feed", "things", "left", "out", "place"] ["feed", "things"] (defScope s_law_shuffled) := ⟨rfl, rfl, rfl, by decide +kernel, rfl, by decide +kernel, by decide +kernel⟩
theorem sc_law_size : FnScope ["feed", "kind"] ["feed"] (defScope s_law_size) := ⟨rfl, rfl, rfl, by decide +kernel, rfl, by decide +kernel, by decide +kernel⟩
theorem sc_law_free : FnScope ["many", "rows", "some", "barred", "row", "rule"] ["many", "rows", "some"] (defScope s_law_free) := ⟨rfl, rfl, rfl, by decide +kernel, rfl, by decide +kernel, by decide +kernel⟩
theorem sc_law_same_sets : FnScope ["told", "due", "place"] ["told", "due"] (defScope s_law_same_sets) := ⟨rfl, rfl, rfl, by decide +kernel, rfl, by decide +kernel, by decide +kernel⟩
theorem sc_strata_of : FnScope ["many", "rows", "some", "told", "free"] ["many", "rows"] (defScope s_strata_of) := ⟨rfl, rfl, rfl, by decide +kernel, rfl, by decide +kernel, by decide +kernel⟩
theorem sc_law_lead : FnScope ["feed", "order", "place", "sign", "row", "rule"] ["feed", "order", "place", "sign"] (defScope s_law_lead) := ⟨rfl, rfl, rfl, by decide +kernel, rfl, by decide +kernel, by decide +kernel⟩
theorem sc_law_link : FnScope ["feed", "order", "place", "row", "rule"] ["feed", "order", "place"] (defScope s_law_link) := ⟨rfl, rfl, rfl, by decide +kernel, rfl, by decide +kernel, by decide +kernel⟩
theorem sc_law_plain : FnScope ["feed", "many", "row", "place"] ["feed", "many"] (defScope s_law_plain) := ⟨rfl, rfl, rfl, by decide +kernel, rfl, by decide +kernel, by decide +kernel⟩
theorem sc_law_bar_row : FnScope ["feed", "order", "top", "rule", "row", "other"] ["feed", "order", "top", "rule"] (defScope s_law_bar_row) := ⟨rfl, rfl, rfl, by decide +kernel, rfl, by decide +kernel, by decide +kernel⟩
theorem sc_law_any_rows : FnScope ["feed", "many", "rows", "lap", "place"] ["feed", "many"] (defScope s_law_any_rows) := ⟨rfl, rfl, rfl, by decide +kernel, rfl, by decide +kernel, by decide +kernel⟩
theorem sc_law_strata : FnScope ["many", "rows", "strata", "ahead", "lap", "more"] ["many", "rows"] (defScope s_law_strata) := ⟨rfl, rfl, rfl, by decide +kernel, rfl, by decide +kernel, by decide +kernel⟩
theorem sc_law_frees : FnScope ["feed", "order", "rows", "many", "sets", "lap", "some", "bits", "size", "rule"] ["feed", "order", "rows"] (defScope s_law_frees) := ⟨rfl, rfl, rfl, by decide +kernel, rfl, by decide +kernel, by decide +kernel⟩
theorem sc_reach_of : FnScope ["many", "rows", "stratum", "rule"] ["many", "rows"] (defScope s_reach_of) := ⟨rfl, rfl, rfl, by decide +kernel, rfl, by decide +kernel, by decide +kernel⟩
theorem sc_law_world : FnScope ["feed", "order", "top", "wide", "many", "core", "place", "rule", "plain", "ahead", "lap"] ["feed", "order", "top", "wide"] (defScope s_law_world) := ⟨rfl, rfl, rfl, by decide +kernel, rfl, by decide +kernel, by decide +kernel⟩
theorem sc_rest_of : FnScope ["many", "rows", "reach", "rule"] ["many", "rows"] (defScope s_rest_of) := ⟨rfl, rfl, rfl, by decide +kernel, rfl, by decide +kernel, by decide +kernel⟩
theorem sc_law_asked : FnScope ["feed", "order", "rows", "reach", "many", "strata", "come", "stratum", "left", "rule"] ["feed", "order", "rows", "reach"] (defScope s_law_asked) := ⟨rfl, rfl, rfl, by decide +kernel, rfl, by decide +kernel, by decide +kernel⟩
theorem sc_law : FnScope ["script", "feed", "many", "wide", "order", "top", "links", "other", "whole", "place", "rule"] ["script"] (defScope s_law) := ⟨rfl, rfl, rfl, by decide +kernel, rfl, by decide +kernel, by decide +kernel⟩
noncomputable abbrev b_is_nought : PM Fl := (sSeq (sFor [some 1] (iW qG (xCons (xK 1) xNil)) (.nm 2) (sIf (tBl (x2gg dNe (x2pp dIx (qV 0) (qV 2)) (xC (.int 0)))) (sRet (xC (.bl false))) sNx)) (sRet (xC (.bl true))))
noncomputable def m_is_nought : List D → Rd := mkDef 3 2 [] b_is_nought
noncomputable abbrev b_law_feed : PM Fl := (sSeq (sSet 1 (xComp [none] (iW qG (xCons (xSlv 0 bN (bS (xC (.int 63)))) xNil)) (.nm 2) tYesF (x1p dInt (qV 2)) [2])) (sRet (xOwn (xCons (xI 1) (xCons (xC (.int 0)) (xCons (xC (.int 0)) (xCons (x2gg dMod (x1g dInt (x2gg dAdd (x2gg dMul (x1p dLen (qV 1)) (xC (.int 6007))) (xC (.int 1409)))) (xC (.int 2147483629))) xNil)))))))
noncomputable def m_law_feed : List D → Rd := mkDef 3 1 [] b_law_feed
noncomputable abbrev b_law_draw : PM Fl := (sSeq (sIf (tAndF (tBl (x2gg dEq (x2vg dIx 0 (xC (.int 2))) (xC (.int 0)))) (tBl (x2gg dLt (x2vg dIx 0 (xC (.int 1))) (x1g dLen (x2vg dIx 0 (xC (.int 0))))))) (sSeq (sSet 2 (x2gg dIx (x2vg dIx 0 (xC (.int 0))) (x2vg dIx 0 (xC (.int 1))))) (sSeq (sSetI 0 (x2gg dAdd (x2vg dIx 0 (xC (.int 1))) (xC (.int 1))) (xC (.int 1))) (sSeq (sIf (tBl (x2vg dLt 2 (xC (.int 0)))) (sSet 2 (x1g dNeg (xP (qV 2)))) sNx) (sIf (tBl (x2vg dLt 2 (x2gg dPow (xC (.int 10)) (xC (.int 18))))) (sSetI 0 (x2gg dMod (x1g dInt (x2gg dAdd (x2gg dAdd (x2gg dMul (x2vg dIx 0 (xC (.int 3))) (xC (.int 40692))) (x2vg dMul 2 (xC (.int 37)))) (xC (.int 3)))) (xC (.int 2147483629))) (xC (.int 3))) (sSetI 0 (x2gg dMod (x1p dInt (qV 2)) (x2gg dPow (x2gg dPow (xC (.int 10)) (xC (.int 60))) (xC (.int 10)))) (xC (.int 2))))))) sNx) (sSeq (sIf (tBl (x2gg dGt (x2vg dIx 0 (xC (.int 2))) (xC (.int 0)))) (sSeq (sSet 3 (x2gp dMod (x1g dInt (x2vg dIx 0 (xC (.int 2)))) (qV 1))) (sSeq (sSetI 0 (x2gp dDiv (x1g dInt (x2vg dIx 0 (xC (.int 2)))) (qV 1)) (xC (.int 2))) (sRet (xT 3)))) sNx) (sSeq (sSetI 0 (x2gg dMod (x1g dInt (x2gg dAdd (x2gg dMul (x2vg dIx 0 (xC (.int 3))) (xC (.int 39373))) (xC (.int 17)))) (xC (.int 2147483629))) (xC (.int 3))) (sRet (x2gp dMod (x1g dInt (x2gg dDiv (x2vg dIx 0 (xC (.int 3))) (xC (.int 32)))) (qV 1))))))
noncomputable def m_law_draw : List D → Rd := mkDef 4 2 [0] b_law_draw
noncomputable abbrev b_law_nought : PM Fl := (sSeq (sFor [some 1] (iW qG (xCons (xK 1) xNil)) (.nm 2) (sIf (tBl (x2gg dNe (x2pp dIx (qV 0) (qV 2)) (xC (.int 0)))) (sRet (xC (.bl false))) sNx)) (sRet (xC (.bl true))))
noncomputable def m_law_nought : List D → Rd := mkDef 3 2 [1] b_law_nought
noncomputable abbrev b_law_same : PM Fl := (sSeq (sIf (tOrF (tNotF (tTru (x1p (dIsi "tuple") (qV 0)))) (tBl (x2gg dNe (x1p dLen (qV 0)) (x1p dLen (qV 1))))) (sRet (xC (.bl false))) sNx) (sSeq (sFor [none] (iW qR1 (xCons (x1p dLen (qV 1)) xNil)) (.nm 2) (sSeq (sSet 3 (x2pp dIx (qV 0) (qV 2))) (sIf (tOrF (tNotF (tTru (x1p (dIsi "int") (qV 3)))) (tOrF (tTru (x1p (dIsi "bool") (qV 3))) (tBl (x2vg dNe 3 (x2pp dIx (qV 1) (qV 2)))))) (sRet (xC (.bl false))) sNx))) (sRet (xC (.bl true)))))
noncomputable def m_law_same : List D → Rd := mkDef 4 2 [] b_law_same
noncomputable abbrev b_free_rules : PM Fl := (sSeq (sSet 3 (xComp [some 1] (iW qG (xCons (xK 1) xNil)) (.nm 6) (tTru (xCal 2 [] m_is_nought (xCons (xI 6) (xCons (xI 2) xNil)))) (xI 6) [6])) (sSeq (sSet 4 (xOwn xNil)) (sSeq (sFor [none] (iW qR1 (xCons (xP (qV 0)) xNil)) (.nm 5) (sIf (tAndF (tBl (x2pp (dIn true) (qV 5) (qV 2))) (tNotF (tTru (xComp [some 3] (iW qG (xCons (xK 3) xNil)) (.nm 6) (tBl (x2gg dLt (x2pp dIx (qV 6) (qV 5)) (xC (.int 0)))) (xI 6) [6])))) (sExpr (xApp 4 (xI 5))) sNx)) (sRet (x1p dTuple (qV 4))))))
noncomputable def m_free_rules : List D → Rd := mkDef 7 3 [] b_free_rules
noncomputable abbrev b_law_shuffled : PM Fl := (sSeq (sSet 2 (x1p dList (qV 1))) (sSeq (sSet 3 (xOwn xNil)) (sSeq (sFor [none] (iW qR1 (xCons (x1p dLen (qV 1)) xNil)) (.nm 4) (sExpr (xApp 3 (xPopAt 2 (xCal 2 [some 0] m_law_draw (xZ 0 (xCons (x1p dLen (qV 2)) xNil))))))) (sRet (xT 3)))))
noncomputable def m_law_shuffled : List D → Rd := mkDef 5 2 [0] b_law_shuffled
noncomputable abbrev b_law_size : PM Fl := (sSeq (sSet 1 (xCal 2 [some 0] m_law_draw (xZ 0 (xCons (xC (.int 5)) xNil)))) (sSeq (sIf (tBl (x2vg dLt 1 (xC (.int 2)))) (sRet (x2gp dAdd (xC (.int 1)) (qV 1))) sNx) (sSeq (sIf (tBl (x2vg dEq 1 (xC (.int 2)))) (sRet (x2gg dAdd (xC (.int 2)) (xCal 2 [some 0] m_law_draw (xZ 0 (xCons (xC (.int 40)) xNil))))) sNx) (sSeq (sIf (tBl (x2vg dEq 1 (xC (.int 3)))) (sRet (x2gg dSub (x2gg dPow (xC (.int 10)) (xC (.int 6))) (xCal 2 [some 0] m_law_draw (xZ 0 (xCons (xC (.int 2)) xNil))))) sNx) (sRet (x2gg dAdd (xC (.int 1)) (xCal 2 [some 0] m_law_draw (xZ 0 (xCons (x2gg dPow (xC (.int 10)) (xC (.int 6))) xNil)))))))))
noncomputable def m_law_size : List D → Rd := mkDef 2 1 [0] b_law_size
noncomputable abbrev b_law_free : PM Fl := (sSeq (sSet 3 (xComp [none] (iW qR1 (xCons (xP (qV 0)) xNil)) (.nm 5) tYesF (xC (.bl false)) [5])) (sSeq (sFor [some 1] (iW qG (xCons (xK 1) xNil)) (.nm 4) (sIf (tTru (xCal 2 [some 2] m_law_nought (xCons (xI 4) (xZ 2 xNil)))) (sFor [none] (iW qR1 (xCons (xP (qV 0)) xNil)) (.nm 5) (sIf (tBl (x2gg dLt (x2pp dIx (qV 4) (qV 5)) (xC (.int 0)))) (sSetI 3 (xC (.bl true)) (xP (qV 5))) sNx)) sNx)) (sRet (xComp [none] (iW qR1 (xCons (xP (qV 0)) xNil)) (.nm 5) (tAndF (tNotF (tTru (x2pp dIx (qV 3) (qV 5)))) (tBl (x2pp (dIn true) (qV 5) (qV 2)))) (xI 5) [5]))))
noncomputable def m_law_free : List D → Rd := mkDef 6 3 [2] b_law_free
noncomputable abbrev b_law_same_sets : PM Fl := (sSeq (sIf (tOrF (tNotF (tTru (x1p (dIsi "tuple") (qV 0)))) (tBl (x2gg dNe (x1p dLen (qV 0)) (x1p dLen (qV 1))))) (sRet (xC (.bl false))) sNx) (sSeq (sFor [none] (iW qR1 (xCons (x1p dLen (qV 1)) xNil)) (.nm 2) (sIf (tNotF (tTru (xCal 2 [] m_law_same (xCons (x2pp dIx (qV 0) (qV 2)) (xCons (x2pp dIx (qV 1) (qV 2)) xNil))))) (sRet (xC (.bl false))) sNx)) (sRet (xC (.bl true)))))
noncomputable def m_law_same_sets : List D → Rd := mkDef 3 2 [] b_law_same_sets
noncomputable abbrev b_strata_of : PM Fl := (sSeq (sSet 2 (xTup xNil)) (sSeq (sSet 3 (xOwn xNil)) (sSeq (sSet 4 (xCal 3 [] m_free_rules (xCons (xI 0) (xCons (xI 1) (xCons (xI 2) xNil))))) (sSeq (sWh (tTruP (qV 4)) (sSeq (sExpr (xApp 3 (xI 4))) (sSeq (sSet 2 (x1g dTuple (x1g dSorted (x2pp dAdd (qV 2) (qV 4))))) (sSet 4 (xCal 3 [] m_free_rules (xCons (xI 0) (xCons (xI 1) (xCons (xI 2) xNil)))))))) (sRet (x1p dTuple (qV 3)))))))
noncomputable def m_strata_of : List D → Rd := mkDef 5 2 [] b_strata_of
noncomputable abbrev b_law_lead : PM Fl := (sSeq (sSet 4 (xComp [some 1] (iW qG (xCons (xK 1) xNil)) (.nm 5) tYesF (xC (.int 0)) [5])) (sSeq (sSetI 4 (x2vg dMul 3 (xCal 1 [some 0] m_law_size (xZ 0 xNil))) (x2pp dIx (qV 1) (qV 2))) (sSeq (sFor [none] (iW qG (xCons (xSlv 1 (bS (x2vg dAdd 2 (xC (.int 1)))) bN) xNil)) (.nm 5) (sSetI 4 (x2gg dMul (x2gg dSub (xCal 2 [some 0] m_law_draw (xZ 0 (xCons (xC (.int 3)) xNil))) (xC (.int 1))) (xCal 1 [some 0] m_law_size (xZ 0 xNil))) (xP (qV 5)))) (sRet (x1p dTuple (qV 4))))))
noncomputable def m_law_lead : List D → Rd := mkDef 6 4 [0] b_law_lead
noncomputable abbrev b_law_link : PM Fl := (sSeq (sSet 3 (xComp [some 1] (iW qG (xCons (xK 1) xNil)) (.nm 4) tYesF (xC (.int 0)) [4])) (sSeq (sSetI 3 (xCal 1 [some 0] m_law_size (xZ 0 xNil)) (x2pp dIx (qV 1) (qV 2))) (sSeq (sIf (tBl (x2gg dLt (x2vg dAdd 2 (xC (.int 1))) (x1p dLen (qV 1)))) (sSetI 3 (x1g dNeg (xCal 1 [some 0] m_law_size (xZ 0 xNil))) (x2vg dIx 1 (x2vg dAdd 2 (xC (.int 1))))) sNx) (sRet (x1p dTuple (qV 3))))))
noncomputable def m_law_link : List D → Rd := mkDef 5 3 [0] b_law_link
noncomputable abbrev b_law_plain : PM Fl := (sSeq (sSet 2 (xOwn xNil)) (sSeq (sFor [none] (iW qR1 (xCons (xP (qV 1)) xNil)) (.nm 3) (sExpr (xApp 2 (x2gg dMul (xCal 2 [some 0] m_law_draw (xZ 0 (xCons (xC (.int 2)) xNil))) (xCal 1 [some 0] m_law_size (xZ 0 xNil)))))) (sRet (x1p dTuple (qV 2)))))
noncomputable def m_law_plain : List D → Rd := mkDef 4 2 [0] b_law_plain
noncomputable abbrev b_law_bar_row : PM Fl := (sSeq (sSet 4 (xComp [some 1] (iW qG (xCons (xK 1) xNil)) (.nm 5) tYesF (xC (.int 0)) [5])) (sSeq (sFor [none] (iW qG (xCons (xSlv 1 (bS (xP (qV 2))) bN) xNil)) (.nm 5) (sSetI 4 (x2gg dMul (x2gg dSub (xCal 2 [some 0] m_law_draw (xZ 0 (xCons (xC (.int 3)) xNil))) (xC (.int 1))) (xCal 1 [some 0] m_law_size (xZ 0 xNil))) (xP (qV 5)))) (sSeq (sSetI 4 (x1g dNeg (xCal 1 [some 0] m_law_size (xZ 0 xNil))) (xP (qV 3))) (sRet (x1p dTuple (qV 4))))))
noncomputable def m_law_bar_row : List D → Rd := mkDef 6 4 [0] b_law_bar_row
noncomputable abbrev b_law_any_rows : PM Fl := (sSeq (sSet 2 (xOwn xNil)) (sSeq (sFor [none] (iW qR1 (xCons (x2gg dAdd (xC (.int 1)) (xCal 2 [some 0] m_law_draw (xZ 0 (xCons (xC (.int 6)) xNil)))) xNil)) (.nm 3) (sExpr (xApp 2 (x1g dTuple (xComp [none] (iW qR1 (xCons (xP (qV 1)) xNil)) (.nm 4) tYesF (x2gg dMul (x2gg dSub (xCal 2 [some 0] m_law_draw (xZ 0 (xCons (xC (.int 3)) xNil))) (xC (.int 1))) (xCal 1 [some 0] m_law_size (xZ 0 xNil))) [4]))))) (sRet (x1p dTuple (qV 2)))))
noncomputable def m_law_any_rows : List D → Rd := mkDef 5 2 [0] b_law_any_rows
noncomputable abbrev b_law_strata : PM Fl := (sSeq (sSet 2 (xOwn xNil)) (sSeq (sSet 3 (xOwn xNil)) (sSeq (sFor [none] (iW qR1 (xCons (xP (qV 0)) xNil)) (.nm 4) (sSeq (sSet 5 (xCal 3 [some 3] m_law_free (xCons (xI 0) (xCons (xI 1) (xZ 3 xNil))))) (sSeq (sIf (tBl (x2gg dEq (x1p dLen (qV 5)) (xC (.int 0)))) sBk sNx) (sSeq (sExpr (xApp 2 (x1p dTuple (qV 5)))) (sSet 3 (x2pp dAdd (qV 3) (qV 5))))))) (sRet (x1p dTuple (qV 2))))))
noncomputable def m_law_strata : List D → Rd := mkDef 6 2 [] b_law_strata
noncomputable abbrev b_law_frees : PM Fl := (sSeq (sSet 3 (x1p dLen (qV 1))) (sSeq (sSet 4 (xComp [none] (iW qR1 (xCons (x2vg dAdd 3 (xC (.int 1))) xNil)) (.nm 8) tYesF (x1g dTuple (x1g dSorted (xSlv 1 bN (bS (xP (qV 8)))))) [8])) (sSeq (sFor [none] (iW qR1 (xCons (xC (.int 2)) xNil)) (.nm 5) (sSeq (sSet 7 (xComp [none] (iW qR1 (xCons (xP (qV 3)) xNil)) (.nm 9) tYesF (xCal 2 [some 0] m_law_draw (xZ 0 (xCons (xC (.int 2)) xNil))) [9])) (sExpr (xApp 4 (x1g dTuple (xComp [none] (iW qR1 (xCons (xP (qV 3)) xNil)) (.nm 9) (tBl (x2gg dEq (x2pp dIx (qV 7) (qV 9)) (xC (.int 1)))) (xI 9) [9])))))) (sSeq (sFor [some 4] (iW qG (xCons (xK 4) xNil)) (.nm 6) (sIf (tNotF (tTru (xCal 2 [] m_law_same (xCons (xCal 3 [] m_free_rules (xCons (xI 3) (xCons (xI 2) (xCons (xI 6) xNil)))) (xCons (xCal 3 [some 6] m_law_free (xCons (xI 3) (xCons (xI 2) (xZ 6 xNil)))) xNil))))) (sRet (xC (.bl false))) sNx)) (sRet (xC (.bl true)))))))
noncomputable def m_law_frees : List D → Rd := mkDef 10 3 [0] b_law_frees
noncomputable abbrev b_reach_of : PM Fl := (sRet (x1g dTuple (x1g dSorted (xComp2 [none] (iW qG (xCons (xCal 2 [] m_strata_of (xCons (xI 0) (xCons (xI 1) xNil))) xNil)) (.nm 2) tYesF [some 2] (iW qG (xCons (xK 2) xNil)) (.nm 3) tYesF (xI 3) [2, 3] [3]))))
noncomputable def m_reach_of : List D → Rd := mkDef 4 2 [] b_reach_of
noncomputable abbrev b_law_world : PM Fl := (sSeq (sSet 4 (x1p dLen (qV 1))) (sSeq (sSet 5 (xOwn xNil)) (sSeq (sIf (tBl (x2vg dGt 2 (xC (.int 0)))) (sSet 5 (xComp [none] (iW qR1 (xCons (xCal 2 [some 0] m_law_draw (xZ 0 (xCons (xC (.int 5)) xNil))) xNil)) (.nm 10) tYesF (xCal 4 [some 0] m_law_lead (xZ 0 (xCons (xI 1) (xCons (xCal 2 [some 0] m_law_draw (xZ 0 (xCons (xI 2) xNil))) (xCons (xC (.int 1)) xNil))))) [10])) sNx) (sSeq (sFor [none] (iW qR1 (xCons (xCal 2 [some 0] m_law_draw (xZ 0 (xCons (x2vg dAdd 2 (xC (.int 1))) xNil))) xNil)) (.nm 6) (sExpr (xApp 5 (xCal 3 [some 0] m_law_link (xZ 0 (xCons (xI 1) (xCons (xI 6) xNil))))))) (sSeq (sFor [none] (iW qG (xCons (xSlv 1 (bS (xP (qV 2))) bN) xNil)) (.nm 7) (sExpr (xApp 5 (xCal 4 [some 0] m_law_bar_row (xZ 0 (xCons (xI 1) (xCons (xI 2) (xCons (xI 7) xNil)))))))) (sSeq (sSet 8 (x2gg dAdd (xC (.int 1)) (xCal 2 [some 0] m_law_draw (xZ 0 (xCons (xC (.int 3)) xNil))))) (sSeq (sIf (tTruP (qV 3)) (sSet 8 (x2gg dSub (x2gg dSub (xC (.int 200)) (x1p dLen (qV 5))) (xCal 2 [some 0] m_law_draw (xZ 0 (xCons (xC (.int 4)) xNil))))) sNx) (sSeq (sSet 9 (xComp [none] (iW qR1 (xCons (xP (qV 8)) xNil)) (.nm 10) tYesF (xCal 2 [some 0] m_law_plain (xZ 0 (xCons (xI 4) xNil))) [10])) (sSeq (sIf (tTruP (qV 3)) (sRet (x1g dTuple (x2vg dAdd 9 (xCal 2 [some 0] m_law_shuffled (xZ 0 (xCons (xI 5) xNil)))))) sNx) (sRet (x1g dTuple (xCal 2 [some 0] m_law_shuffled (xZ 0 (xCons (x2pp dAdd (qV 9) (qV 5)) xNil))))))))))))))
noncomputable def m_law_world : List D → Rd := mkDef 11 4 [0] b_law_world
noncomputable abbrev b_rest_of : PM Fl := (sSeq (sSet 2 (xCal 2 [] m_reach_of (xCons (xI 0) (xCons (xI 1) xNil)))) (sRet (x1g dTuple (xComp [none] (iW qR1 (xCons (xP (qV 0)) xNil)) (.nm 3) (tBl (x2pp (dIn true) (qV 3) (qV 2))) (xI 3) [3]))))
noncomputable def m_rest_of : List D → Rd := mkDef 4 2 [] b_rest_of
noncomputable abbrev b_law_asked : PM Fl := (sSeq (sSet 4 (x1p dLen (qV 1))) (sSeq (sSet 5 (xCal 2 [] m_law_strata (xCons (xI 4) (xCons (xI 2) xNil)))) (sSeq (sIf (tNotF (tTru (xCal 2 [] m_law_same_sets (xCons (xCal 2 [] m_strata_of (xCons (xI 4) (xCons (xI 2) xNil))) (xCons (xI 5) xNil))))) (sRet (xC (.bl false))) sNx) (sSeq (sSet 6 (xOwn xNil)) (sSeq (sFor [some 5] (iW qG (xCons (xK 5) xNil)) (.nm 7) (sSet 6 (x2vg dAdd 6 (x1p dList (qV 7))))) (sSeq (sIf (tAndF (tBl (x2vg dIsNot 3 (xC .non))) (tBl (x2gg dNe (x1p dSorted (qV 6)) (x1p dSorted (qV 3))))) (sRet (xC (.bl false))) sNx) (sSeq (sIf (tNotF (tTru (xCal 2 [] m_law_same (xCons (xCal 2 [] m_reach_of (xCons (xI 4) (xCons (xI 2) xNil))) (xCons (x1g dTuple (x1p dSorted (qV 6))) xNil))))) (sRet (xC (.bl false))) sNx) (sSeq (sSet 8 (x1g dTuple (xComp [none] (iW qR1 (xCons (xP (qV 4)) xNil)) (.nm 9) (tBl (x2pp (dIn true) (qV 9) (qV 6))) (xI 9) [9]))) (sRet (xAnd (xCal 2 [] m_law_same (xCons (xCal 2 [] m_rest_of (xCons (xI 4) (xCons (xI 2) xNil))) (xCons (xI 8) xNil))) (xCal 3 [some 0] m_law_frees (xZ 0 (xCons (xI 1) (xCons (xI 2) xNil))))))))))))))
noncomputable def m_law_asked : List D → Rd := mkDef 10 4 [0] b_law_asked
noncomputable abbrev b_law : PM Fl := (sSeq (sSet 1 (xCal 1 [] m_law_feed (xCons (xI 0) xNil))) (sSeq (sSet 2 (x2gg dAdd (xC (.int 1)) (xCal 2 [some 1] m_law_draw (xZ 1 (xCons (xC (.int 6)) xNil))))) (sSeq (sSet 3 (x2gg dEq (xCal 2 [some 1] m_law_draw (xZ 1 (xCons (xC (.int 7)) xNil))) (xC (.int 2)))) (sSeq (sSet 4 (xCal 2 [some 1] m_law_shuffled (xZ 1 (xCons (xRngL (xP (qV 2))) xNil)))) (sSeq (sIf (tNotF (tTru (xCal 4 [some 1] m_law_asked (xZ 1 (xCons (xI 4) (xCons (xCal 4 [some 1] m_law_world (xZ 1 (xCons (xI 4) (xCons (xI 2) (xCons (xI 3) xNil))))) (xCons (xI 4) xNil))))))) (sRet (xC (.bl false))) sNx) (sSeq (sSet 5 (xCal 2 [some 1] m_law_draw (xZ 1 (xCons (xI 2) xNil)))) (sSeq (sIf (tNotF (tTru (xCal 4 [some 1] m_law_asked (xZ 1 (xCons (xI 4) (xCons (xCal 4 [some 1] m_law_world (xZ 1 (xCons (xI 4) (xCons (xI 5) (xCons (xI 3) xNil))))) (xCons (xSlv 4 bN (bS (xP (qV 5)))) xNil))))))) (sRet (xC (.bl false))) sNx) (sSeq (sSet 6 (x1g dTuple (xComp [none] (iW qR1 (xCons (xP (qV 2)) xNil)) (.nm 9) tYesF (xCal 3 [some 1] m_law_link (xZ 1 (xCons (xI 4) (xCons (xI 9) xNil)))) [9]))) (sSeq (sIf (tNotF (tTru (xCal 2 [] m_law_same_sets (xCons (xCal 2 [] m_strata_of (xCons (xI 2) (xCons (xI 6) xNil))) (xCons (xComp [some 4] (iW qG (xCons (xK 4) xNil)) (.nm 10) tYesF (xTup (xCons (xI 10) xNil)) [10]) xNil))))) (sRet (xC (.bl false))) sNx) (sSeq (sIf (tNotF (tTru (xCal 4 [some 1] m_law_asked (xZ 1 (xCons (xI 4) (xCons (xCal 2 [some 1] m_law_any_rows (xZ 1 (xCons (xI 2) xNil))) (xCons (xC .non) xNil))))))) (sRet (xC (.bl false))) sNx) (sSeq (sFor [none, none] (iW qR2 (xCons (xC (.int 1)) (xCons (xC (.int 7)) xNil))) (.nm 7) (sSeq (sSet 8 (x1g dRngT (xP (qV 7)))) (sSeq (sIf (tOrF (tNotF (tTru (xCal 2 [] m_law_same_sets (xCons (xCal 2 [] m_strata_of (xCons (xI 7) (xCons (xTup xNil) xNil))) (xCons (xTup (xCons (xI 8) xNil)) xNil))))) (tNotF (tTru (xCal 2 [] m_law_same (xCons (xCal 2 [] m_rest_of (xCons (xI 7) (xCons (xTup xNil) xNil))) (xCons (xTup xNil) xNil)))))) (sRet (xC (.bl false))) sNx) (sIf (tOrF (tNotF (tTru (xCal 2 [] m_law_same (xCons (xCal 2 [] m_reach_of (xCons (xI 7) (xCons (xTup xNil) xNil))) (xCons (xI 8) xNil))))) (tNotF (tTru (xCal 2 [] m_law_same (xCons (xCal 3 [] m_free_rules (xCons (xI 7) (xCons (xTup xNil) (xCons (xSlv 8 bN (bS (xC (.int 1)))) xNil)))) (xCons (xSlv 8 (bS (xC (.int 1))) bN) xNil)))))) (sRet (xC (.bl false))) sNx)))) (sRet (xC (.bl true))))))))))))))
noncomputable def m_law : List D → Rd := mkDef 11 1 [] b_law
structure Top (K : PySem.W.Frag) (mg : Str → Option Value) where
  d_is_nought : Dn K mg "is_nought" s_is_nought ["row", "some"]
  d_law_feed : Dn K mg "_law_feed" s_law_feed ["script"]
  d_law_draw : Dn K mg "_law_draw" s_law_draw ["feed", "many"]
  d_law_nought : Dn K mg "_law_nought" s_law_nought ["row", "some"]
  d_law_same : Dn K mg "_law_same" s_law_same ["told", "due"]
  d_free_rules : Dn K mg "free_rules" s_free_rules ["many", "rows", "some"]
  d_law_shuffled : Dn K mg "_law_shuffled" s_law_shuffled ["feed", "things"]
  d_law_size : Dn K mg "_law_size" s_law_size ["feed"]
  d_law_free : Dn K mg "_law_free" s_law_free ["many", "rows", "some"]
  d_law_same_sets : Dn K mg "_law_same_sets" s_law_same_sets ["told", "due"]
  d_strata_of : Dn K mg "strata_of" s_strata_of ["many", "rows"]
  d_law_lead : Dn K mg "_law_lead" s_law_lead ["feed", "order", "place", "sign"]
  d_law_link : Dn K mg "_law_link" s_law_link ["feed", "order", "place"]
  d_law_plain : Dn K mg "_law_plain" s_law_plain ["feed", "many"]
  d_law_bar_row : Dn K mg "_law_bar_row" s_law_bar_row ["feed", "order", "top", "rule"]
  d_law_any_rows : Dn K mg "_law_any_rows" s_law_any_rows ["feed", "many"]
  d_law_strata : Dn K mg "_law_strata" s_law_strata ["many", "rows"]
  d_law_frees : Dn K mg "_law_frees" s_law_frees ["feed", "order", "rows"]
  d_reach_of : Dn K mg "reach_of" s_reach_of ["many", "rows"]
  d_law_world : Dn K mg "_law_world" s_law_world ["feed", "order", "top", "wide"]
  d_rest_of : Dn K mg "rest_of" s_rest_of ["many", "rows"]
  d_law_asked : Dn K mg "_law_asked" s_law_asked ["feed", "order", "rows", "reach"]
  d_law : Dn K mg "law" s_law ["script"]
  m_bool : mg "bool" = none
  m_int : mg "int" = none
  m_isinstance : mg "isinstance" = none
  m_len : mg "len" = none
  m_list : mg "list" = none
  m_range : mg "range" = none
  m_sorted : mg "sorted" = none
  m_tuple : mg "tuple" = none
section
variable {P : Program} {w : World} {K : PySem.W.Frag} {mg : Str → Option Value} {base : Heap}
theorem ok_is_nought (T : Top K mg) (k : Nat) : FnOk P w K mg base CX0 (k + 1) T.d_is_nought.f T.d_is_nought.fd ["row", "some"] (spP K 2 [] m_is_nought) :=
 fn_p (N := ["row", "some", "rule"]) (ps := ["row", "some"]) (io := []) (k := k + 0) (body := b_is_nought) T.d_is_nought.F sc_is_nought (fun cdv A outer s H E hr =>
 (ss_cons (ss_for PassesOwn.never rfl (it_v (pv 1)) (pg_name (i := 2) sc_is_nought.nd rfl (by first | exact Or.inl rfl | exact Or.inr rfl)) (tgr_name 2)
 (ss_one (ss_if (pt_gg (op_neD hr.units) ro_ne (ix_pp (pb_var (pv 0)) (pb_var (pv 2)) (fun _ _ => rfl)) pp_int (nomark _))
 (ss_one (ss_ret pp_bl))
 ss_nil)))
 (ss_one (ss_ret pp_bl))))
theorem ok_law_feed (T : Top K mg) (k : Nat) : FnOk P w K mg base CX0 (k + 1) T.d_law_feed.f T.d_law_feed.fd ["script"] (spP K 1 [] m_law_feed) :=
 fn_p (N := ["script", "cells", "cell"]) (ps := ["script"]) (io := []) (k := k + 0) (body := b_law_feed) T.d_law_feed.F sc_law_feed (fun cdv A outer s H E hr =>
 (ss_cons (ss_setLc (i := 1) (own := [("cell", 2)]) rfl sc_law_feed.nd rfl rfl (by rfl) (it_g (sl_v (pv_var (pv 0)) po_n (po_s pp_int))) (blkOk_by (own := [("cell", 2)]) (N := ["script", "cells", "cell"]) (sc := defScope s_law_feed) (by decide +kernel)) (tgr_name 2) (fun _ _ _ _ _ => (pg_name (i := 2) sc_law_feed.nd rfl (by first | exact Or.inl rfl | exact Or.inr rfl))) (fun _ _ _ _ _ => pts0) (fun _ _ _ _ _ => (bt_p call_int1 ro_int (by rfl) T.m_int PyProof.Rows.boot_int (pb_var (pv 2)))))
 (ss_one (ss_ret (pp_own (pa1 (pp_ice (pv 1)) (pa1 pp_int (pa1 pp_int (pa1 (bin_gg op_mod ro_mod (bt_g call_int1 ro_int (by rfl) T.m_int PyProof.Rows.boot_int (bin_gg op_add' ro_add (bin_gg op_mulW ro_mul (bi_p call_len ro_len (by rfl) T.m_len boot_len (pb_var (pv 1))) pp_int) pp_int)) pp_int) pa0)))))))))
theorem ok_law_draw (T : Top K mg) (k : Nat) : FnOk P w K mg base CX0 (k + 1) T.d_law_draw.f T.d_law_draw.fd ["feed", "many"] (spP K 2 [0] m_law_draw) :=
 fn_p (N := ["feed", "many", "cell", "pick"]) (ps := ["feed", "many"]) (io := [0]) (k := k + 0) (body := b_law_draw) T.d_law_draw.F sc_law_draw (fun cdv A outer s H E hr =>
 (ss_cons (ss_if (PW.pt (pw_an (pt_gg (op_eqD hr.units) ro_eq (ix_vg (pv_var (pv 0)) pp_int (fun _ _ => rfl)) pp_int (nomark _)) (pw_and1 (pt_gg op_lt ro_lt (ix_vg (pv_var (pv 0)) pp_int (fun _ _ => rfl)) (bi_g call_len ro_len (by rfl) T.m_len boot_len (ix_vg (pv_var (pv 0)) pp_int (fun _ _ => rfl))) (nomark _)))))
 (ss_cons (ss_set (i := 2) sc_law_draw.nd rfl (by first | exact Or.inl rfl | exact Or.inr rfl) (ix_gg (ix_vg (pv_var (pv 0)) pp_int (fun _ _ => rfl)) (ix_vg (pv_var (pv 0)) pp_int (fun _ _ => rfl)) (fun _ _ => rfl)))
 (ss_cons (ss_setI (bin_gg op_add' ro_add (ix_vg (pv_var (pv 0)) pp_int (fun _ _ => rfl)) pp_int) (pv_var (pv 0)) pp_int)
 (ss_cons (ss_if (pt_vg op_lt ro_lt (pv_var (pv 2)) pp_int (nomark _))
 (ss_one (ss_set (i := 2) sc_law_draw.nd rfl (by first | exact Or.inl rfl | exact Or.inr rfl) (neg_g (pp_place (pb_var (pv 2))))))
 ss_nil)
 (ss_one (ss_if (pt_vg op_lt ro_lt (pv_var (pv 2)) (bin_gg op_powW ro_pow pp_int pp_int) (nomark _))
 (ss_one (ss_setI (bin_gg op_mod ro_mod (bt_g call_int1 ro_int (by rfl) T.m_int PyProof.Rows.boot_int (bin_gg op_add' ro_add (bin_gg op_add' ro_add (bin_gg op_mulW ro_mul (ix_vg (pv_var (pv 0)) pp_int (fun _ _ => rfl)) pp_int) (bin_vg op_mulW ro_mul (pv_var (pv 2)) pp_int)) pp_int)) pp_int) (pv_var (pv 0)) pp_int))
 (ss_one (ss_setI (bin_gg op_mod ro_mod (bt_p call_int1 ro_int (by rfl) T.m_int PyProof.Rows.boot_int (pb_var (pv 2))) (bin_gg op_powW ro_pow (bin_gg op_powW ro_pow pp_int pp_int) pp_int)) (pv_var (pv 0)) pp_int)))))))
 ss_nil)
 (ss_cons (ss_if (pt_gg op_gt ro_gt (ix_vg (pv_var (pv 0)) pp_int (fun _ _ => rfl)) pp_int (nomark _))
 (ss_cons (ss_set (i := 3) sc_law_draw.nd rfl (by first | exact Or.inl rfl | exact Or.inr rfl) (bin_gp op_mod ro_mod (bt_g call_int1 ro_int (by rfl) T.m_int PyProof.Rows.boot_int (ix_vg (pv_var (pv 0)) pp_int (fun _ _ => rfl))) (pb_var (pv 1))))
 (ss_cons (ss_setI (bin_gp op_fdiv ro_div (bt_g call_int1 ro_int (by rfl) T.m_int PyProof.Rows.boot_int (ix_vg (pv_var (pv 0)) pp_int (fun _ _ => rfl))) (pb_var (pv 1))) (pv_var (pv 0)) pp_int)
 (ss_one (ss_ret (pp_take (pv 3))))))
 ss_nil)
 (ss_cons (ss_setI (bin_gg op_mod ro_mod (bt_g call_int1 ro_int (by rfl) T.m_int PyProof.Rows.boot_int (bin_gg op_add' ro_add (bin_gg op_mulW ro_mul (ix_vg (pv_var (pv 0)) pp_int (fun _ _ => rfl)) pp_int) pp_int)) pp_int) (pv_var (pv 0)) pp_int)
 (ss_one (ss_ret (bin_gp op_mod ro_mod (bt_g call_int1 ro_int (by rfl) T.m_int PyProof.Rows.boot_int (bin_gg op_fdiv ro_div (ix_vg (pv_var (pv 0)) pp_int (fun _ _ => rfl)) pp_int)) (pb_var (pv 1)))))))))
theorem ok_law_nought (T : Top K mg) (k : Nat) : FnOk P w K mg base CX0 (k + 1) T.d_law_nought.f T.d_law_nought.fd ["row", "some"] (spP K 2 [1] m_law_nought) :=
 fn_p (N := ["row", "some", "rule"]) (ps := ["row", "some"]) (io := [1]) (k := k + 0) (body := b_law_nought) T.d_law_nought.F sc_law_nought (fun cdv A outer s H E hr =>
 (ss_cons (ss_for PassesOwn.never rfl (it_v (pv 1)) (pg_name (i := 2) sc_law_nought.nd rfl (by first | exact Or.inl rfl | exact Or.inr rfl)) (tgr_name 2)
 (ss_one (ss_if (pt_gg (op_neD hr.units) ro_ne (ix_pp (pb_var (pv 0)) (pb_var (pv 2)) (fun _ _ => rfl)) pp_int (nomark _))
 (ss_one (ss_ret pp_bl))
 ss_nil)))
 (ss_one (ss_ret pp_bl))))
theorem ok_law_same (T : Top K mg) (k : Nat) : FnOk P w K mg base CX0 (k + 1) T.d_law_same.f T.d_law_same.fd ["told", "due"] (spP K 2 [] m_law_same) :=
 fn_p (N := ["told", "due", "place", "one"]) (ps := ["told", "due"]) (io := []) (k := k + 0) (body := b_law_same) T.d_law_same.F sc_law_same (fun cdv A outer s H E hr =>
 (ss_cons (ss_if (PW.pt (pw_orr (pt_no (pt_tru (isi_p (by rfl) T.m_isinstance (by rfl) T.m_tuple PyProof.Rows.boot_tuple (pb_var (pv 0))))) (pw_or1 (pt_gg (op_neD hr.units) ro_ne (bi_p call_len ro_len (by rfl) T.m_len boot_len (pb_var (pv 0))) (bi_p call_len ro_len (by rfl) T.m_len boot_len (pb_var (pv 1))) (nomark _)))))
 (ss_one (ss_ret pp_bl))
 ss_nil)
 (ss_cons (ss_for PassesOwn.never rfl (it_r1 (by rfl) T.m_range (pal1 (bi_p call_len ro_len (by rfl) T.m_len boot_len (pb_var (pv 1))) pal0)) (pg_name (i := 2) sc_law_same.nd rfl (by first | exact Or.inl rfl | exact Or.inr rfl)) (tgr_name 2)
 (ss_cons (ss_set (i := 3) sc_law_same.nd rfl (by first | exact Or.inl rfl | exact Or.inr rfl) (ix_pp (pb_var (pv 0)) (pb_var (pv 2)) (fun _ _ => rfl)))
 (ss_one (ss_if (PW.pt (pw_orr (pt_no (pt_tru (isi_p (by rfl) T.m_isinstance (by rfl) T.m_int PyProof.Rows.boot_int (pb_var (pv 3))))) (pw_orr (pt_tru (isi_p (by rfl) T.m_isinstance (by rfl) T.m_bool PyProof.Rows.boot_bool (pb_var (pv 3)))) (pw_or1 (pt_vg (op_neD hr.units) ro_ne (pv_var (pv 3)) (ix_pp (pb_var (pv 1)) (pb_var (pv 2)) (fun _ _ => rfl)) (nomark _))))))
 (ss_one (ss_ret pp_bl))
 ss_nil))))
 (ss_one (ss_ret pp_bl)))))
theorem ok_free_rules (T : Top K mg) (k : Nat) : FnOk P w K mg base CX0 (k + 2) T.d_free_rules.f T.d_free_rules.fd ["many", "rows", "some"] (spP K 3 [] m_free_rules) :=
 fn_p (N := ["many", "rows", "some", "tied", "told", "rule", "row"]) (ps := ["many", "rows", "some"]) (io := []) (k := k + 1) (body := b_free_rules) T.d_free_rules.F sc_free_rules (fun cdv A outer s H E hr =>
 (ss_cons (ss_setLc (i := 3) (own := [("row", 6)]) rfl sc_free_rules.nd rfl rfl (by rfl) (it_v (pv 1)) (blkOk_by (own := [("row", 6)]) (N := ["many", "rows", "some", "tied", "told", "rule", "row"]) (sc := defScope s_free_rules) (by decide +kernel)) (tgr_name 6) (fun _ _ _ _ _ => (pg_name (i := 6) sc_free_rules.nd rfl (by first | exact Or.inl rfl | exact Or.inr rfl))) (fun _ _ _ _ _ => (pts1 (pt_tru (pp_cal (js := []) 2 (ok_is_nought T (k + 0)) hr (by rfl) T.d_is_nought.g T.d_is_nought.F.kp T.d_is_nought.b (pal1 (pp_ice (pv 6)) (pal1 (pp_ice (pv 2)) pal0)))))) (fun _ _ _ _ _ => (pp_ice (pv 6))))
 (ss_cons (ss_set (i := 4) sc_free_rules.nd rfl (by first | exact Or.inl rfl | exact Or.inr rfl) (pp_own pa0))
 (ss_cons (ss_for PassesOwn.never rfl (it_r1 (by rfl) T.m_range (pal1 (pp_place (pb_var (pv 0))) pal0)) (pg_name (i := 5) sc_free_rules.nd rfl (by first | exact Or.inl rfl | exact Or.inr rfl)) (tgr_name 5)
 (ss_one (ss_if (PW.pt (pw_an (pt_pp op_notIn_seq (ro_in true) (pb_var (pv 5)) (pb_var (pv 2)) (by rfl)) (pw_and1 (pt_no (pt_tru (pp_comp (own := [("row", 6)]) rfl sc_free_rules.nd (it_v (pv 3)) (blkOk_by (own := [("row", 6)]) (N := ["many", "rows", "some", "tied", "told", "rule", "row"]) (sc := defScope s_free_rules) (by decide +kernel)) (tgr_name 6) (fun _ _ _ _ _ => (pg_name (i := 6) sc_free_rules.nd rfl (by first | exact Or.inl rfl | exact Or.inr rfl))) (fun _ _ _ _ _ => (pts1 (pt_gg op_lt ro_lt (ix_pp (pb_var (pv 6)) (pb_var (pv 5)) (fun _ _ => rfl)) pp_int (nomark _)))) (fun _ _ _ _ _ => (pp_ice (pv 6)))))))))
 (ss_one (ss_expr (pp_app (pv_var (pv 4)) (pp_ice (pv 5)))))
 ss_nil)))
 (ss_one (ss_ret (bt_p call_tuple_of ro_tuple (by rfl) T.m_tuple PyProof.Rows.boot_tuple (pb_var (pv 4)))))))))
theorem ok_law_shuffled (T : Top K mg) (k : Nat) : FnOk P w K mg base CX0 (k + 2) T.d_law_shuffled.f T.d_law_shuffled.fd ["feed", "things"] (spP K 2 [0] m_law_shuffled) :=
 fn_p (N := ["feed", "things", "left", "out", "place"]) (ps := ["feed", "things"]) (io := [0]) (k := k + 1) (body := b_law_shuffled) T.d_law_shuffled.F sc_law_shuffled (fun cdv A outer s H E hr =>
 (ss_cons (ss_set (i := 2) sc_law_shuffled.nd rfl (by first | exact Or.inl rfl | exact Or.inr rfl) (bt_p call_list_of ro_list (by rfl) T.m_list PyProof.Rows.boot_list (pb_var (pv 1))))
 (ss_cons (ss_set (i := 3) sc_law_shuffled.nd rfl (by first | exact Or.inl rfl | exact Or.inr rfl) (pp_own pa0))
 (ss_cons (ss_for PassesOwn.never rfl (it_r1 (by rfl) T.m_range (pal1 (bi_p call_len ro_len (by rfl) T.m_len boot_len (pb_var (pv 1))) pal0)) (pg_name (i := 4) sc_law_shuffled.nd rfl (by first | exact Or.inl rfl | exact Or.inr rfl)) (tgr_name 4)
 (ss_one (ss_expr (pp_app (pv_var (pv 3)) (pp_popAt (pv_var (pv 2)) (pp_cal (js := [some 0]) 2 (ok_law_draw T (k + 0)) hr (by rfl) T.d_law_draw.g T.d_law_draw.F.kp T.d_law_draw.b (palz (pv 0) (pal1 (bi_p call_len ro_len (by rfl) T.m_len boot_len (pb_var (pv 2))) pal0))))))))
 (ss_one (ss_ret (pp_take (pv 3))))))))
theorem ok_law_size (T : Top K mg) (k : Nat) : FnOk P w K mg base CX0 (k + 2) T.d_law_size.f T.d_law_size.fd ["feed"] (spP K 1 [0] m_law_size) :=
 fn_p (N := ["feed", "kind"]) (ps := ["feed"]) (io := [0]) (k := k + 1) (body := b_law_size) T.d_law_size.F sc_law_size (fun cdv A outer s H E hr =>
 (ss_cons (ss_set (i := 1) sc_law_size.nd rfl (by first | exact Or.inl rfl | exact Or.inr rfl) (pp_cal (js := [some 0]) 2 (ok_law_draw T (k + 0)) hr (by rfl) T.d_law_draw.g T.d_law_draw.F.kp T.d_law_draw.b (palz (pv 0) (pal1 pp_int pal0))))
 (ss_cons (ss_if (pt_vg op_lt ro_lt (pv_var (pv 1)) pp_int (nomark _))
 (ss_one (ss_ret (bin_gp op_add' ro_add pp_int (pb_var (pv 1)))))
 ss_nil)
 (ss_cons (ss_if (pt_vg (op_eqD hr.units) ro_eq (pv_var (pv 1)) pp_int (nomark _))
 (ss_one (ss_ret (bin_gg op_add' ro_add pp_int (pp_cal (js := [some 0]) 2 (ok_law_draw T (k + 0)) hr (by rfl) T.d_law_draw.g T.d_law_draw.F.kp T.d_law_draw.b (palz (pv 0) (pal1 pp_int pal0))))))
 ss_nil)
 (ss_cons (ss_if (pt_vg (op_eqD hr.units) ro_eq (pv_var (pv 1)) pp_int (nomark _))
 (ss_one (ss_ret (bin_gg op_sub ro_sub (bin_gg op_powW ro_pow pp_int pp_int) (pp_cal (js := [some 0]) 2 (ok_law_draw T (k + 0)) hr (by rfl) T.d_law_draw.g T.d_law_draw.F.kp T.d_law_draw.b (palz (pv 0) (pal1 pp_int pal0))))))
 ss_nil)
 (ss_one (ss_ret (bin_gg op_add' ro_add pp_int (pp_cal (js := [some 0]) 2 (ok_law_draw T (k + 0)) hr (by rfl) T.d_law_draw.g T.d_law_draw.F.kp T.d_law_draw.b (palz (pv 0) (pal1 (bin_gg op_powW ro_pow pp_int pp_int) pal0)))))))))))
theorem ok_law_free (T : Top K mg) (k : Nat) : FnOk P w K mg base CX0 (k + 2) T.d_law_free.f T.d_law_free.fd ["many", "rows", "some"] (spP K 3 [2] m_law_free) :=
 fn_p (N := ["many", "rows", "some", "barred", "row", "rule"]) (ps := ["many", "rows", "some"]) (io := [2]) (k := k + 1) (body := b_law_free) T.d_law_free.F sc_law_free (fun cdv A outer s H E hr =>
 (ss_cons (ss_set (i := 3) sc_law_free.nd rfl (by first | exact Or.inl rfl | exact Or.inr rfl) (pp_comp (own := [("rule", 5)]) rfl sc_law_free.nd (it_r1 (by rfl) T.m_range (pal1 (pp_place (pb_var (pv 0))) pal0)) (blkOk_by (own := [("rule", 5)]) (N := ["many", "rows", "some", "barred", "row", "rule"]) (sc := defScope s_law_free) (by decide +kernel)) (tgr_name 5) (fun _ _ _ _ _ => (pg_name (i := 5) sc_law_free.nd rfl (by first | exact Or.inl rfl | exact Or.inr rfl))) (fun _ _ _ _ _ => pts0) (fun _ _ _ _ _ => pp_bl)))
 (ss_cons (ss_for PassesOwn.never rfl (it_v (pv 1)) (pg_name (i := 4) sc_law_free.nd rfl (by first | exact Or.inl rfl | exact Or.inr rfl)) (tgr_name 4)
 (ss_one (ss_if (pt_tru (pp_cal (js := [some 2]) 2 (ok_law_nought T (k + 0)) hr (by rfl) T.d_law_nought.g T.d_law_nought.F.kp T.d_law_nought.b (pal1 (pp_ice (pv 4)) (palz (pv 2) pal0))))
 (ss_one (ss_for PassesOwn.never rfl (it_r1 (by rfl) T.m_range (pal1 (pp_place (pb_var (pv 0))) pal0)) (pg_name (i := 5) sc_law_free.nd rfl (by first | exact Or.inl rfl | exact Or.inr rfl)) (tgr_name 5)
 (ss_one (ss_if (pt_gg op_lt ro_lt (ix_pp (pb_var (pv 4)) (pb_var (pv 5)) (fun _ _ => rfl)) pp_int (nomark _))
 (ss_one (ss_setI pp_bl (pv_var (pv 3)) (pp_place (pb_var (pv 5)))))
 ss_nil))))
 ss_nil)))
 (ss_one (ss_ret (pp_comp (own := [("rule", 5)]) rfl sc_law_free.nd (it_r1 (by rfl) T.m_range (pal1 (pp_place (pb_var (pv 0))) pal0)) (blkOk_by (own := [("rule", 5)]) (N := ["many", "rows", "some", "barred", "row", "rule"]) (sc := defScope s_law_free) (by decide +kernel)) (tgr_name 5) (fun _ _ _ _ _ => (pg_name (i := 5) sc_law_free.nd rfl (by first | exact Or.inl rfl | exact Or.inr rfl))) (fun _ _ _ _ _ => (pts1 (PW.pt (pw_an (pt_no (pt_tru (ix_pp (pb_var (pv 3)) (pb_var (pv 5)) (fun _ _ => rfl)))) (pw_and1 (pt_pp op_notIn_seq (ro_in true) (pb_var (pv 5)) (pb_var (pv 2)) (by rfl))))))) (fun _ _ _ _ _ => (pp_ice (pv 5)))))))))
theorem ok_law_same_sets (T : Top K mg) (k : Nat) : FnOk P w K mg base CX0 (k + 2) T.d_law_same_sets.f T.d_law_same_sets.fd ["told", "due"] (spP K 2 [] m_law_same_sets) :=
 fn_p (N := ["told", "due", "place"]) (ps := ["told", "due"]) (io := []) (k := k + 1) (body := b_law_same_sets) T.d_law_same_sets.F sc_law_same_sets (fun cdv A outer s H E hr =>
 (ss_cons (ss_if (PW.pt (pw_orr (pt_no (pt_tru (isi_p (by rfl) T.m_isinstance (by rfl) T.m_tuple PyProof.Rows.boot_tuple (pb_var (pv 0))))) (pw_or1 (pt_gg (op_neD hr.units) ro_ne (bi_p call_len ro_len (by rfl) T.m_len boot_len (pb_var (pv 0))) (bi_p call_len ro_len (by rfl) T.m_len boot_len (pb_var (pv 1))) (nomark _)))))
 (ss_one (ss_ret pp_bl))
 ss_nil)
 (ss_cons (ss_for PassesOwn.never rfl (it_r1 (by rfl) T.m_range (pal1 (bi_p call_len ro_len (by rfl) T.m_len boot_len (pb_var (pv 1))) pal0)) (pg_name (i := 2) sc_law_same_sets.nd rfl (by first | exact Or.inl rfl | exact Or.inr rfl)) (tgr_name 2)
 (ss_one (ss_if (pt_no (pt_tru (pp_cal (js := []) 2 (ok_law_same T (k + 0)) hr (by rfl) T.d_law_same.g T.d_law_same.F.kp T.d_law_same.b (pal1 (ix_pp (pb_var (pv 0)) (pb_var (pv 2)) (fun _ _ => rfl)) (pal1 (ix_pp (pb_var (pv 1)) (pb_var (pv 2)) (fun _ _ => rfl)) pal0)))))
 (ss_one (ss_ret pp_bl))
 ss_nil)))
 (ss_one (ss_ret pp_bl)))))
theorem ok_strata_of (T : Top K mg) (k : Nat) : FnOk P w K mg base CX0 (k + 3) T.d_strata_of.f T.d_strata_of.fd ["many", "rows"] (spP K 2 [] m_strata_of) :=
 fn_p (N := ["many", "rows", "some", "told", "free"]) (ps := ["many", "rows"]) (io := []) (k := k + 2) (body := b_strata_of) T.d_strata_of.F sc_strata_of (fun cdv A outer s H E hr =>
 (ss_cons (ss_set (i := 2) sc_strata_of.nd rfl (by first | exact Or.inl rfl | exact Or.inr rfl) (pp_tup pa0))
 (ss_cons (ss_set (i := 3) sc_strata_of.nd rfl (by first | exact Or.inl rfl | exact Or.inr rfl) (pp_own pa0))
 (ss_cons (ss_set (i := 4) sc_strata_of.nd rfl (by first | exact Or.inl rfl | exact Or.inr rfl) (pp_cal (js := []) 3 (ok_free_rules T (k + 0)) hr (by rfl) T.d_free_rules.g T.d_free_rules.F.kp T.d_free_rules.b (pal1 (pp_ice (pv 0)) (pal1 (pp_ice (pv 1)) (pal1 (pp_ice (pv 2)) pal0)))))
 (ss_cons (ss_while PassesOwn.never (pt_truP (pb_var (pv 4)))
 (ss_cons (ss_expr (pp_app (pv_var (pv 3)) (pp_ice (pv 4))))
 (ss_cons (ss_set (i := 2) sc_strata_of.nd rfl (by first | exact Or.inl rfl | exact Or.inr rfl) (bt_g call_tuple_of ro_tuple (by rfl) T.m_tuple PyProof.Rows.boot_tuple (bi_g cr_srt ro_sorted (by rfl) T.m_sorted PyProof.Rows.boot_sorted (bin_pp op_add' ro_add (pb_var (pv 2)) (pb_var (pv 4))))))
 (ss_one (ss_set (i := 4) sc_strata_of.nd rfl (by first | exact Or.inl rfl | exact Or.inr rfl) (pp_cal (js := []) 3 (ok_free_rules T (k + 0)) hr (by rfl) T.d_free_rules.g T.d_free_rules.F.kp T.d_free_rules.b (pal1 (pp_ice (pv 0)) (pal1 (pp_ice (pv 1)) (pal1 (pp_ice (pv 2)) pal0)))))))))
 (ss_one (ss_ret (bt_p call_tuple_of ro_tuple (by rfl) T.m_tuple PyProof.Rows.boot_tuple (pb_var (pv 3))))))))))
theorem ok_law_lead (T : Top K mg) (k : Nat) : FnOk P w K mg base CX0 (k + 3) T.d_law_lead.f T.d_law_lead.fd ["feed", "order", "place", "sign"] (spP K 4 [0] m_law_lead) :=
 fn_p (N := ["feed", "order", "place", "sign", "row", "rule"]) (ps := ["feed", "order", "place", "sign"]) (io := [0]) (k := k + 2) (body := b_law_lead) T.d_law_lead.F sc_law_lead (fun cdv A outer s H E hr =>
 (ss_cons (ss_setLc (i := 4) (own := [("rule", 5)]) rfl sc_law_lead.nd rfl rfl (by rfl) (it_v (pv 1)) (blkOk_by (own := [("rule", 5)]) (N := ["feed", "order", "place", "sign", "row", "rule"]) (sc := defScope s_law_lead) (by decide +kernel)) (tgr_name 5) (fun _ _ _ _ _ => (pg_name (i := 5) sc_law_lead.nd rfl (by first | exact Or.inl rfl | exact Or.inr rfl))) (fun _ _ _ _ _ => pts0) (fun _ _ _ _ _ => pp_int))
 (ss_cons (ss_setI (bin_vg op_mulW ro_mul (pv_var (pv 3)) (pp_cal (js := [some 0]) 1 (ok_law_size T (k + 0)) hr (by rfl) T.d_law_size.g T.d_law_size.F.kp T.d_law_size.b (palz (pv 0) pal0))) (pv_var (pv 4)) (ix_pp (pb_var (pv 1)) (pb_var (pv 2)) (fun _ _ => rfl)))
 (ss_cons (ss_for PassesOwn.never rfl (it_g (sl_v (pv_var (pv 1)) (po_s (bin_vg op_add' ro_add (pv_var (pv 2)) pp_int)) po_n)) (pg_name (i := 5) sc_law_lead.nd rfl (by first | exact Or.inl rfl | exact Or.inr rfl)) (tgr_name 5)
 (ss_one (ss_setI (bin_gg op_mulW ro_mul (bin_gg op_sub ro_sub (pp_cal (js := [some 0]) 2 (ok_law_draw T (k + 1)) hr (by rfl) T.d_law_draw.g T.d_law_draw.F.kp T.d_law_draw.b (palz (pv 0) (pal1 pp_int pal0))) pp_int) (pp_cal (js := [some 0]) 1 (ok_law_size T (k + 0)) hr (by rfl) T.d_law_size.g T.d_law_size.F.kp T.d_law_size.b (palz (pv 0) pal0))) (pv_var (pv 4)) (pp_place (pb_var (pv 5))))))
 (ss_one (ss_ret (bt_p call_tuple_of ro_tuple (by rfl) T.m_tuple PyProof.Rows.boot_tuple (pb_var (pv 4)))))))))
theorem ok_law_link (T : Top K mg) (k : Nat) : FnOk P w K mg base CX0 (k + 3) T.d_law_link.f T.d_law_link.fd ["feed", "order", "place"] (spP K 3 [0] m_law_link) :=
 fn_p (N := ["feed", "order", "place", "row", "rule"]) (ps := ["feed", "order", "place"]) (io := [0]) (k := k + 2) (body := b_law_link) T.d_law_link.F sc_law_link (fun cdv A outer s H E hr =>
 (ss_cons (ss_setLc (i := 3) (own := [("rule", 4)]) rfl sc_law_link.nd rfl rfl (by rfl) (it_v (pv 1)) (blkOk_by (own := [("rule", 4)]) (N := ["feed", "order", "place", "row", "rule"]) (sc := defScope s_law_link) (by decide +kernel)) (tgr_name 4) (fun _ _ _ _ _ => (pg_name (i := 4) sc_law_link.nd rfl (by first | exact Or.inl rfl | exact Or.inr rfl))) (fun _ _ _ _ _ => pts0) (fun _ _ _ _ _ => pp_int))
 (ss_cons (ss_setI (pp_cal (js := [some 0]) 1 (ok_law_size T (k + 0)) hr (by rfl) T.d_law_size.g T.d_law_size.F.kp T.d_law_size.b (palz (pv 0) pal0)) (pv_var (pv 3)) (ix_pp (pb_var (pv 1)) (pb_var (pv 2)) (fun _ _ => rfl)))
 (ss_cons (ss_if (pt_gg op_lt ro_lt (bin_vg op_add' ro_add (pv_var (pv 2)) pp_int) (bi_p call_len ro_len (by rfl) T.m_len boot_len (pb_var (pv 1))) (nomark _))
 (ss_one (ss_setI (neg_g (pp_cal (js := [some 0]) 1 (ok_law_size T (k + 0)) hr (by rfl) T.d_law_size.g T.d_law_size.F.kp T.d_law_size.b (palz (pv 0) pal0))) (pv_var (pv 3)) (ix_vg (pv_var (pv 1)) (bin_vg op_add' ro_add (pv_var (pv 2)) pp_int) (fun _ _ => rfl))))
 ss_nil)
 (ss_one (ss_ret (bt_p call_tuple_of ro_tuple (by rfl) T.m_tuple PyProof.Rows.boot_tuple (pb_var (pv 3)))))))))
theorem ok_law_plain (T : Top K mg) (k : Nat) : FnOk P w K mg base CX0 (k + 3) T.d_law_plain.f T.d_law_plain.fd ["feed", "many"] (spP K 2 [0] m_law_plain) :=
 fn_p (N := ["feed", "many", "row", "place"]) (ps := ["feed", "many"]) (io := [0]) (k := k + 2) (body := b_law_plain) T.d_law_plain.F sc_law_plain (fun cdv A outer s H E hr =>
 (ss_cons (ss_set (i := 2) sc_law_plain.nd rfl (by first | exact Or.inl rfl | exact Or.inr rfl) (pp_own pa0))
 (ss_cons (ss_for PassesOwn.never rfl (it_r1 (by rfl) T.m_range (pal1 (pp_place (pb_var (pv 1))) pal0)) (pg_name (i := 3) sc_law_plain.nd rfl (by first | exact Or.inl rfl | exact Or.inr rfl)) (tgr_name 3)
 (ss_one (ss_expr (pp_app (pv_var (pv 2)) (bin_gg op_mulW ro_mul (pp_cal (js := [some 0]) 2 (ok_law_draw T (k + 1)) hr (by rfl) T.d_law_draw.g T.d_law_draw.F.kp T.d_law_draw.b (palz (pv 0) (pal1 pp_int pal0))) (pp_cal (js := [some 0]) 1 (ok_law_size T (k + 0)) hr (by rfl) T.d_law_size.g T.d_law_size.F.kp T.d_law_size.b (palz (pv 0) pal0)))))))
 (ss_one (ss_ret (bt_p call_tuple_of ro_tuple (by rfl) T.m_tuple PyProof.Rows.boot_tuple (pb_var (pv 2))))))))
theorem ok_law_bar_row (T : Top K mg) (k : Nat) : FnOk P w K mg base CX0 (k + 3) T.d_law_bar_row.f T.d_law_bar_row.fd ["feed", "order", "top", "rule"] (spP K 4 [0] m_law_bar_row) :=
 fn_p (N := ["feed", "order", "top", "rule", "row", "other"]) (ps := ["feed", "order", "top", "rule"]) (io := [0]) (k := k + 2) (body := b_law_bar_row) T.d_law_bar_row.F sc_law_bar_row (fun cdv A outer s H E hr =>
 (ss_cons (ss_setLc (i := 4) (own := [("other", 5)]) rfl sc_law_bar_row.nd rfl rfl (by rfl) (it_v (pv 1)) (blkOk_by (own := [("other", 5)]) (N := ["feed", "order", "top", "rule", "row", "other"]) (sc := defScope s_law_bar_row) (by decide +kernel)) (tgr_name 5) (fun _ _ _ _ _ => (pg_name (i := 5) sc_law_bar_row.nd rfl (by first | exact Or.inl rfl | exact Or.inr rfl))) (fun _ _ _ _ _ => pts0) (fun _ _ _ _ _ => pp_int))
 (ss_cons (ss_for PassesOwn.never rfl (it_g (sl_v (pv_var (pv 1)) (po_s (pp_place (pb_var (pv 2)))) po_n)) (pg_name (i := 5) sc_law_bar_row.nd rfl (by first | exact Or.inl rfl | exact Or.inr rfl)) (tgr_name 5)
 (ss_one (ss_setI (bin_gg op_mulW ro_mul (bin_gg op_sub ro_sub (pp_cal (js := [some 0]) 2 (ok_law_draw T (k + 1)) hr (by rfl) T.d_law_draw.g T.d_law_draw.F.kp T.d_law_draw.b (palz (pv 0) (pal1 pp_int pal0))) pp_int) (pp_cal (js := [some 0]) 1 (ok_law_size T (k + 0)) hr (by rfl) T.d_law_size.g T.d_law_size.F.kp T.d_law_size.b (palz (pv 0) pal0))) (pv_var (pv 4)) (pp_place (pb_var (pv 5))))))
 (ss_cons (ss_setI (neg_g (pp_cal (js := [some 0]) 1 (ok_law_size T (k + 0)) hr (by rfl) T.d_law_size.g T.d_law_size.F.kp T.d_law_size.b (palz (pv 0) pal0))) (pv_var (pv 4)) (pp_place (pb_var (pv 3))))
 (ss_one (ss_ret (bt_p call_tuple_of ro_tuple (by rfl) T.m_tuple PyProof.Rows.boot_tuple (pb_var (pv 4)))))))))
theorem ok_law_any_rows (T : Top K mg) (k : Nat) : FnOk P w K mg base CX0 (k + 3) T.d_law_any_rows.f T.d_law_any_rows.fd ["feed", "many"] (spP K 2 [0] m_law_any_rows) :=
 fn_p (N := ["feed", "many", "rows", "lap", "place"]) (ps := ["feed", "many"]) (io := [0]) (k := k + 2) (body := b_law_any_rows) T.d_law_any_rows.F sc_law_any_rows (fun cdv A outer s H E hr =>
 (ss_cons (ss_set (i := 2) sc_law_any_rows.nd rfl (by first | exact Or.inl rfl | exact Or.inr rfl) (pp_own pa0))
 (ss_cons (ss_for PassesOwn.never rfl (it_r1 (by rfl) T.m_range (pal1 (bin_gg op_add' ro_add pp_int (pp_cal (js := [some 0]) 2 (ok_law_draw T (k + 1)) hr (by rfl) T.d_law_draw.g T.d_law_draw.F.kp T.d_law_draw.b (palz (pv 0) (pal1 pp_int pal0)))) pal0)) (pg_name (i := 3) sc_law_any_rows.nd rfl (by first | exact Or.inl rfl | exact Or.inr rfl)) (tgr_name 3)
 (ss_one (ss_expr (pp_app (pv_var (pv 2)) (bt_g call_tuple_of ro_tuple (by rfl) T.m_tuple PyProof.Rows.boot_tuple (pp_comp (own := [("place", 4)]) rfl sc_law_any_rows.nd (it_r1 (by rfl) T.m_range (pal1 (pp_place (pb_var (pv 1))) pal0)) (blkOk_by (own := [("place", 4)]) (N := ["feed", "many", "rows", "lap", "place"]) (sc := defScope s_law_any_rows) (by decide +kernel)) (tgr_name 4) (fun _ _ _ _ _ => (pg_name (i := 4) sc_law_any_rows.nd rfl (by first | exact Or.inl rfl | exact Or.inr rfl))) (fun _ _ _ _ _ => pts0) (fun _ _ _ _ _ => (bin_gg op_mulW ro_mul (bin_gg op_sub ro_sub (pp_cal (js := [some 0]) 2 (ok_law_draw T (k + 1)) hr (by rfl) T.d_law_draw.g T.d_law_draw.F.kp T.d_law_draw.b (palz (pv 0) (pal1 pp_int pal0))) pp_int) (pp_cal (js := [some 0]) 1 (ok_law_size T (k + 0)) hr (by rfl) T.d_law_size.g T.d_law_size.F.kp T.d_law_size.b (palz (pv 0) pal0))))))))))
 (ss_one (ss_ret (bt_p call_tuple_of ro_tuple (by rfl) T.m_tuple PyProof.Rows.boot_tuple (pb_var (pv 2))))))))
theorem ok_law_strata (T : Top K mg) (k : Nat) : FnOk P w K mg base CX0 (k + 3) T.d_law_strata.f T.d_law_strata.fd ["many", "rows"] (spP K 2 [] m_law_strata) :=
 fn_p (N := ["many", "rows", "strata", "ahead", "lap", "more"]) (ps := ["many", "rows"]) (io := []) (k := k + 2) (body := b_law_strata) T.d_law_strata.F sc_law_strata (fun cdv A outer s H E hr =>
 (ss_cons (ss_set (i := 2) sc_law_strata.nd rfl (by first | exact Or.inl rfl | exact Or.inr rfl) (pp_own pa0))
 (ss_cons (ss_set (i := 3) sc_law_strata.nd rfl (by first | exact Or.inl rfl | exact Or.inr rfl) (pp_own pa0))
 (ss_cons (ss_for PassesOwn.never rfl (it_r1 (by rfl) T.m_range (pal1 (pp_place (pb_var (pv 0))) pal0)) (pg_name (i := 4) sc_law_strata.nd rfl (by first | exact Or.inl rfl | exact Or.inr rfl)) (tgr_name 4)
 (ss_cons (ss_set (i := 5) sc_law_strata.nd rfl (by first | exact Or.inl rfl | exact Or.inr rfl) (pp_cal (js := [some 3]) 3 (ok_law_free T (k + 0)) hr (by rfl) T.d_law_free.g T.d_law_free.F.kp T.d_law_free.b (pal1 (pp_ice (pv 0)) (pal1 (pp_ice (pv 1)) (palz (pv 3) pal0)))))
 (ss_cons (ss_if (pt_gg (op_eqD hr.units) ro_eq (bi_p call_len ro_len (by rfl) T.m_len boot_len (pb_var (pv 5))) pp_int (nomark _))
 (ss_one ss_break)
 ss_nil)
 (ss_cons (ss_expr (pp_app (pv_var (pv 2)) (bt_p call_tuple_of ro_tuple (by rfl) T.m_tuple PyProof.Rows.boot_tuple (pb_var (pv 5)))))
 (ss_one (ss_set (i := 3) sc_law_strata.nd rfl (by first | exact Or.inl rfl | exact Or.inr rfl) (bin_pp op_add' ro_add (pb_var (pv 3)) (pb_var (pv 5)))))))))
 (ss_one (ss_ret (bt_p call_tuple_of ro_tuple (by rfl) T.m_tuple PyProof.Rows.boot_tuple (pb_var (pv 2)))))))))
theorem ok_law_frees (T : Top K mg) (k : Nat) : FnOk P w K mg base CX0 (k + 3) T.d_law_frees.f T.d_law_frees.fd ["feed", "order", "rows"] (spP K 3 [0] m_law_frees) :=
 fn_p (N := ["feed", "order", "rows", "many", "sets", "lap", "some", "bits", "size", "rule"]) (ps := ["feed", "order", "rows"]) (io := [0]) (k := k + 2) (body := b_law_frees) T.d_law_frees.F sc_law_frees (fun cdv A outer s H E hr =>
 (ss_cons (ss_set (i := 3) sc_law_frees.nd rfl (by first | exact Or.inl rfl | exact Or.inr rfl) (bi_p call_len ro_len (by rfl) T.m_len boot_len (pb_var (pv 1))))
 (ss_cons (ss_setLc (i := 4) (own := [("size", 8)]) rfl sc_law_frees.nd rfl rfl (by rfl) (it_r1 (by rfl) T.m_range (pal1 (bin_vg op_add' ro_add (pv_var (pv 3)) pp_int) pal0)) (blkOk_by (own := [("size", 8)]) (N := ["feed", "order", "rows", "many", "sets", "lap", "some", "bits", "size", "rule"]) (sc := defScope s_law_frees) (by decide +kernel)) (tgr_name 8) (fun _ _ _ _ _ => (pg_name (i := 8) sc_law_frees.nd rfl (by first | exact Or.inl rfl | exact Or.inr rfl))) (fun _ _ _ _ _ => pts0) (fun _ _ _ _ _ => (bt_g call_tuple_of ro_tuple (by rfl) T.m_tuple PyProof.Rows.boot_tuple (bi_g cr_srt ro_sorted (by rfl) T.m_sorted PyProof.Rows.boot_sorted (sl_v (pv_var (pv 1)) po_n (po_s (pp_place (pb_var (pv 8)))))))))
 (ss_cons (ss_for PassesOwn.never rfl (it_r1 (by rfl) T.m_range (pal1 pp_int pal0)) (pg_name (i := 5) sc_law_frees.nd rfl (by first | exact Or.inl rfl | exact Or.inr rfl)) (tgr_name 5)
 (ss_cons (ss_set (i := 7) sc_law_frees.nd rfl (by first | exact Or.inl rfl | exact Or.inr rfl) (pp_comp (own := [("rule", 9)]) rfl sc_law_frees.nd (it_r1 (by rfl) T.m_range (pal1 (pp_place (pb_var (pv 3))) pal0)) (blkOk_by (own := [("rule", 9)]) (N := ["feed", "order", "rows", "many", "sets", "lap", "some", "bits", "size", "rule"]) (sc := defScope s_law_frees) (by decide +kernel)) (tgr_name 9) (fun _ _ _ _ _ => (pg_name (i := 9) sc_law_frees.nd rfl (by first | exact Or.inl rfl | exact Or.inr rfl))) (fun _ _ _ _ _ => pts0) (fun _ _ _ _ _ => (pp_cal (js := [some 0]) 2 (ok_law_draw T (k + 1)) hr (by rfl) T.d_law_draw.g T.d_law_draw.F.kp T.d_law_draw.b (palz (pv 0) (pal1 pp_int pal0))))))
 (ss_one (ss_expr (pp_app (pv_var (pv 4)) (bt_g call_tuple_of ro_tuple (by rfl) T.m_tuple PyProof.Rows.boot_tuple (pp_comp (own := [("rule", 9)]) rfl sc_law_frees.nd (it_r1 (by rfl) T.m_range (pal1 (pp_place (pb_var (pv 3))) pal0)) (blkOk_by (own := [("rule", 9)]) (N := ["feed", "order", "rows", "many", "sets", "lap", "some", "bits", "size", "rule"]) (sc := defScope s_law_frees) (by decide +kernel)) (tgr_name 9) (fun _ _ _ _ _ => (pg_name (i := 9) sc_law_frees.nd rfl (by first | exact Or.inl rfl | exact Or.inr rfl))) (fun _ _ _ _ _ => (pts1 (pt_gg (op_eqD hr.units) ro_eq (ix_pp (pb_var (pv 7)) (pb_var (pv 9)) (fun _ _ => rfl)) pp_int (nomark _)))) (fun _ _ _ _ _ => (pp_ice (pv 9))))))))))
 (ss_cons (ss_for PassesOwn.never rfl (it_v (pv 4)) (pg_name (i := 6) sc_law_frees.nd rfl (by first | exact Or.inl rfl | exact Or.inr rfl)) (tgr_name 6)
 (ss_one (ss_if (pt_no (pt_tru (pp_cal (js := []) 2 (ok_law_same T (k + 1)) hr (by rfl) T.d_law_same.g T.d_law_same.F.kp T.d_law_same.b (pal1 (pp_cal (js := []) 3 (ok_free_rules T (k + 0)) hr (by rfl) T.d_free_rules.g T.d_free_rules.F.kp T.d_free_rules.b (pal1 (pp_ice (pv 3)) (pal1 (pp_ice (pv 2)) (pal1 (pp_ice (pv 6)) pal0)))) (pal1 (pp_cal (js := [some 6]) 3 (ok_law_free T (k + 0)) hr (by rfl) T.d_law_free.g T.d_law_free.F.kp T.d_law_free.b (pal1 (pp_ice (pv 3)) (pal1 (pp_ice (pv 2)) (palz (pv 6) pal0)))) pal0)))))
 (ss_one (ss_ret pp_bl))
 ss_nil)))
 (ss_one (ss_ret pp_bl)))))))
theorem ok_reach_of (T : Top K mg) (k : Nat) : FnOk P w K mg base CX0 (k + 4) T.d_reach_of.f T.d_reach_of.fd ["many", "rows"] (spP K 2 [] m_reach_of) :=
 fn_p (N := ["many", "rows", "stratum", "rule"]) (ps := ["many", "rows"]) (io := []) (k := k + 3) (body := b_reach_of) T.d_reach_of.F sc_reach_of (fun cdv A outer s H E hr =>
 (ss_one (ss_ret (bt_g call_tuple_of ro_tuple (by rfl) T.m_tuple PyProof.Rows.boot_tuple (bi_g cr_srt ro_sorted (by rfl) T.m_sorted PyProof.Rows.boot_sorted (pp_comp2 (own := [("stratum", 2), ("rule", 3)]) (vs1 := [3]) rfl sc_reach_of.nd (it_g (pp_cal (js := []) 2 (ok_strata_of T (k + 0)) hr (by rfl) T.d_strata_of.g T.d_strata_of.F.kp T.d_strata_of.b (pal1 (pp_ice (pv 0)) (pal1 (pp_ice (pv 1)) pal0)))) (blkOk_by (own := [("stratum", 2), ("rule", 3)]) (N := ["many", "rows", "stratum", "rule"]) (sc := defScope s_reach_of) (by decide +kernel)) (tgr_name 2) (tgr_name 3) (fun _ _ _ _ _ => (pg_name (i := 2) sc_reach_of.nd rfl (by first | exact Or.inl rfl | exact Or.inr rfl))) (fun _ _ _ _ _ => pts0) (fun _ _ _ _ _ => (it_v (pv 2))) (fun _ _ _ _ _ => (pg_name (i := 3) sc_reach_of.nd rfl (by first | exact Or.inl rfl | exact Or.inr rfl))) (fun _ _ _ _ _ => pts0) (fun _ _ _ _ _ => (pp_ice (pv 3)))))))))
theorem ok_law_world (T : Top K mg) (k : Nat) : FnOk P w K mg base CX0 (k + 4) T.d_law_world.f T.d_law_world.fd ["feed", "order", "top", "wide"] (spP K 4 [0] m_law_world) :=
 fn_p (N := ["feed", "order", "top", "wide", "many", "core", "place", "rule", "plain", "ahead", "lap"]) (ps := ["feed", "order", "top", "wide"]) (io := [0]) (k := k + 3) (body := b_law_world) T.d_law_world.F sc_law_world (fun cdv A outer s H E hr =>
 (ss_cons (ss_set (i := 4) sc_law_world.nd rfl (by first | exact Or.inl rfl | exact Or.inr rfl) (bi_p call_len ro_len (by rfl) T.m_len boot_len (pb_var (pv 1))))
 (ss_cons (ss_set (i := 5) sc_law_world.nd rfl (by first | exact Or.inl rfl | exact Or.inr rfl) (pp_own pa0))
 (ss_cons (ss_if (pt_vg op_gt ro_gt (pv_var (pv 2)) pp_int (nomark _))
 (ss_one (ss_setLc (i := 5) (own := [("lap", 10)]) rfl sc_law_world.nd rfl rfl (by rfl) (it_r1 (by rfl) T.m_range (pal1 (pp_cal (js := [some 0]) 2 (ok_law_draw T (k + 2)) hr (by rfl) T.d_law_draw.g T.d_law_draw.F.kp T.d_law_draw.b (palz (pv 0) (pal1 pp_int pal0))) pal0)) (blkOk_by (own := [("lap", 10)]) (N := ["feed", "order", "top", "wide", "many", "core", "place", "rule", "plain", "ahead", "lap"]) (sc := defScope s_law_world) (by decide +kernel)) (tgr_name 10) (fun _ _ _ _ _ => (pg_name (i := 10) sc_law_world.nd rfl (by first | exact Or.inl rfl | exact Or.inr rfl))) (fun _ _ _ _ _ => pts0) (fun _ _ _ _ _ => (pp_cal (js := [some 0]) 4 (ok_law_lead T (k + 0)) hr (by rfl) T.d_law_lead.g T.d_law_lead.F.kp T.d_law_lead.b (palz (pv 0) (pal1 (pp_ice (pv 1)) (pal1 (pp_cal (js := [some 0]) 2 (ok_law_draw T (k + 2)) hr (by rfl) T.d_law_draw.g T.d_law_draw.F.kp T.d_law_draw.b (palz (pv 0) (pal1 (pp_ice (pv 2)) pal0))) (pal1 pp_int pal0))))))))
 ss_nil)
 (ss_cons (ss_for PassesOwn.never rfl (it_r1 (by rfl) T.m_range (pal1 (pp_cal (js := [some 0]) 2 (ok_law_draw T (k + 2)) hr (by rfl) T.d_law_draw.g T.d_law_draw.F.kp T.d_law_draw.b (palz (pv 0) (pal1 (bin_vg op_add' ro_add (pv_var (pv 2)) pp_int) pal0))) pal0)) (pg_name (i := 6) sc_law_world.nd rfl (by first | exact Or.inl rfl | exact Or.inr rfl)) (tgr_name 6)
 (ss_one (ss_expr (pp_app (pv_var (pv 5)) (pp_cal (js := [some 0]) 3 (ok_law_link T (k + 0)) hr (by rfl) T.d_law_link.g T.d_law_link.F.kp T.d_law_link.b (palz (pv 0) (pal1 (pp_ice (pv 1)) (pal1 (pp_ice (pv 6)) pal0))))))))
 (ss_cons (ss_for PassesOwn.never rfl (it_g (sl_v (pv_var (pv 1)) (po_s (pp_place (pb_var (pv 2)))) po_n)) (pg_name (i := 7) sc_law_world.nd rfl (by first | exact Or.inl rfl | exact Or.inr rfl)) (tgr_name 7)
 (ss_one (ss_expr (pp_app (pv_var (pv 5)) (pp_cal (js := [some 0]) 4 (ok_law_bar_row T (k + 0)) hr (by rfl) T.d_law_bar_row.g T.d_law_bar_row.F.kp T.d_law_bar_row.b (palz (pv 0) (pal1 (pp_ice (pv 1)) (pal1 (pp_ice (pv 2)) (pal1 (pp_ice (pv 7)) pal0)))))))))
 (ss_cons (ss_set (i := 8) sc_law_world.nd rfl (by first | exact Or.inl rfl | exact Or.inr rfl) (bin_gg op_add' ro_add pp_int (pp_cal (js := [some 0]) 2 (ok_law_draw T (k + 2)) hr (by rfl) T.d_law_draw.g T.d_law_draw.F.kp T.d_law_draw.b (palz (pv 0) (pal1 pp_int pal0)))))
 (ss_cons (ss_if (pt_truP (pb_var (pv 3)))
 (ss_one (ss_set (i := 8) sc_law_world.nd rfl (by first | exact Or.inl rfl | exact Or.inr rfl) (bin_gg op_sub ro_sub (bin_gg op_sub ro_sub pp_int (bi_p call_len ro_len (by rfl) T.m_len boot_len (pb_var (pv 5)))) (pp_cal (js := [some 0]) 2 (ok_law_draw T (k + 2)) hr (by rfl) T.d_law_draw.g T.d_law_draw.F.kp T.d_law_draw.b (palz (pv 0) (pal1 pp_int pal0))))))
 ss_nil)
 (ss_cons (ss_setLc (i := 9) (own := [("lap", 10)]) rfl sc_law_world.nd rfl rfl (by rfl) (it_r1 (by rfl) T.m_range (pal1 (pp_place (pb_var (pv 8))) pal0)) (blkOk_by (own := [("lap", 10)]) (N := ["feed", "order", "top", "wide", "many", "core", "place", "rule", "plain", "ahead", "lap"]) (sc := defScope s_law_world) (by decide +kernel)) (tgr_name 10) (fun _ _ _ _ _ => (pg_name (i := 10) sc_law_world.nd rfl (by first | exact Or.inl rfl | exact Or.inr rfl))) (fun _ _ _ _ _ => pts0) (fun _ _ _ _ _ => (pp_cal (js := [some 0]) 2 (ok_law_plain T (k + 0)) hr (by rfl) T.d_law_plain.g T.d_law_plain.F.kp T.d_law_plain.b (palz (pv 0) (pal1 (pp_ice (pv 4)) pal0)))))
 (ss_cons (ss_if (pt_truP (pb_var (pv 3)))
 (ss_one (ss_ret (bt_g call_tuple_of ro_tuple (by rfl) T.m_tuple PyProof.Rows.boot_tuple (bin_vg op_add' ro_add (pv_var (pv 9)) (pp_cal (js := [some 0]) 2 (ok_law_shuffled T (k + 1)) hr (by rfl) T.d_law_shuffled.g T.d_law_shuffled.F.kp T.d_law_shuffled.b (palz (pv 0) (pal1 (pp_ice (pv 5)) pal0)))))))
 ss_nil)
 (ss_one (ss_ret (bt_g call_tuple_of ro_tuple (by rfl) T.m_tuple PyProof.Rows.boot_tuple (pp_cal (js := [some 0]) 2 (ok_law_shuffled T (k + 1)) hr (by rfl) T.d_law_shuffled.g T.d_law_shuffled.F.kp T.d_law_shuffled.b (palz (pv 0) (pal1 (bin_pp op_add' ro_add (pb_var (pv 9)) (pb_var (pv 5))) pal0))))))))))))))))
theorem ok_rest_of (T : Top K mg) (k : Nat) : FnOk P w K mg base CX0 (k + 5) T.d_rest_of.f T.d_rest_of.fd ["many", "rows"] (spP K 2 [] m_rest_of) :=
 fn_p (N := ["many", "rows", "reach", "rule"]) (ps := ["many", "rows"]) (io := []) (k := k + 4) (body := b_rest_of) T.d_rest_of.F sc_rest_of (fun cdv A outer s H E hr =>
 (ss_cons (ss_set (i := 2) sc_rest_of.nd rfl (by first | exact Or.inl rfl | exact Or.inr rfl) (pp_cal (js := []) 2 (ok_reach_of T (k + 0)) hr (by rfl) T.d_reach_of.g T.d_reach_of.F.kp T.d_reach_of.b (pal1 (pp_ice (pv 0)) (pal1 (pp_ice (pv 1)) pal0))))
 (ss_one (ss_ret (bt_g call_tuple_of ro_tuple (by rfl) T.m_tuple PyProof.Rows.boot_tuple (pp_comp (own := [("rule", 3)]) rfl sc_rest_of.nd (it_r1 (by rfl) T.m_range (pal1 (pp_place (pb_var (pv 0))) pal0)) (blkOk_by (own := [("rule", 3)]) (N := ["many", "rows", "reach", "rule"]) (sc := defScope s_rest_of) (by decide +kernel)) (tgr_name 3) (fun _ _ _ _ _ => (pg_name (i := 3) sc_rest_of.nd rfl (by first | exact Or.inl rfl | exact Or.inr rfl))) (fun _ _ _ _ _ => (pts1 (pt_pp op_notIn_seq (ro_in true) (pb_var (pv 3)) (pb_var (pv 2)) (by rfl)))) (fun _ _ _ _ _ => (pp_ice (pv 3)))))))))
theorem ok_law_asked (T : Top K mg) (k : Nat) : FnOk P w K mg base CX0 (k + 6) T.d_law_asked.f T.d_law_asked.fd ["feed", "order", "rows", "reach"] (spP K 4 [0] m_law_asked) :=
 fn_p (N := ["feed", "order", "rows", "reach", "many", "strata", "come", "stratum", "left", "rule"]) (ps := ["feed", "order", "rows", "reach"]) (io := [0]) (k := k + 5) (body := b_law_asked) T.d_law_asked.F sc_law_asked (fun cdv A outer s H E hr =>
 (ss_cons (ss_set (i := 4) sc_law_asked.nd rfl (by first | exact Or.inl rfl | exact Or.inr rfl) (bi_p call_len ro_len (by rfl) T.m_len boot_len (pb_var (pv 1))))
 (ss_cons (ss_set (i := 5) sc_law_asked.nd rfl (by first | exact Or.inl rfl | exact Or.inr rfl) (pp_cal (js := []) 2 (ok_law_strata T (k + 2)) hr (by rfl) T.d_law_strata.g T.d_law_strata.F.kp T.d_law_strata.b (pal1 (pp_ice (pv 4)) (pal1 (pp_ice (pv 2)) pal0))))
 (ss_cons (ss_if (pt_no (pt_tru (pp_cal (js := []) 2 (ok_law_same_sets T (k + 3)) hr (by rfl) T.d_law_same_sets.g T.d_law_same_sets.F.kp T.d_law_same_sets.b (pal1 (pp_cal (js := []) 2 (ok_strata_of T (k + 2)) hr (by rfl) T.d_strata_of.g T.d_strata_of.F.kp T.d_strata_of.b (pal1 (pp_ice (pv 4)) (pal1 (pp_ice (pv 2)) pal0))) (pal1 (pp_ice (pv 5)) pal0)))))
 (ss_one (ss_ret pp_bl))
 ss_nil)
 (ss_cons (ss_set (i := 6) sc_law_asked.nd rfl (by first | exact Or.inl rfl | exact Or.inr rfl) (pp_own pa0))
 (ss_cons (ss_for PassesOwn.never rfl (it_v (pv 5)) (pg_name (i := 7) sc_law_asked.nd rfl (by first | exact Or.inl rfl | exact Or.inr rfl)) (tgr_name 7)
 (ss_one (ss_set (i := 6) sc_law_asked.nd rfl (by first | exact Or.inl rfl | exact Or.inr rfl) (bin_vg op_add' ro_add (pv_var (pv 6)) (bt_p call_list_of ro_list (by rfl) T.m_list PyProof.Rows.boot_list (pb_var (pv 7)))))))
 (ss_cons (ss_if (PW.pt (pw_an (pt_vg op_notN ro_isnot (pv_var (pv 3)) pp_non (nomark _)) (pw_and1 (pt_gg (op_neD hr.units) ro_ne (bi_p cr_srt ro_sorted (by rfl) T.m_sorted PyProof.Rows.boot_sorted (pb_var (pv 6))) (bi_p cr_srt ro_sorted (by rfl) T.m_sorted PyProof.Rows.boot_sorted (pb_var (pv 3))) (nomark _)))))
 (ss_one (ss_ret pp_bl))
 ss_nil)
 (ss_cons (ss_if (pt_no (pt_tru (pp_cal (js := []) 2 (ok_law_same T (k + 4)) hr (by rfl) T.d_law_same.g T.d_law_same.F.kp T.d_law_same.b (pal1 (pp_cal (js := []) 2 (ok_reach_of T (k + 1)) hr (by rfl) T.d_reach_of.g T.d_reach_of.F.kp T.d_reach_of.b (pal1 (pp_ice (pv 4)) (pal1 (pp_ice (pv 2)) pal0))) (pal1 (bt_g call_tuple_of ro_tuple (by rfl) T.m_tuple PyProof.Rows.boot_tuple (bi_p cr_srt ro_sorted (by rfl) T.m_sorted PyProof.Rows.boot_sorted (pb_var (pv 6)))) pal0)))))
 (ss_one (ss_ret pp_bl))
 ss_nil)
 (ss_cons (ss_set (i := 8) sc_law_asked.nd rfl (by first | exact Or.inl rfl | exact Or.inr rfl) (bt_g call_tuple_of ro_tuple (by rfl) T.m_tuple PyProof.Rows.boot_tuple (pp_comp (own := [("rule", 9)]) rfl sc_law_asked.nd (it_r1 (by rfl) T.m_range (pal1 (pp_place (pb_var (pv 4))) pal0)) (blkOk_by (own := [("rule", 9)]) (N := ["feed", "order", "rows", "reach", "many", "strata", "come", "stratum", "left", "rule"]) (sc := defScope s_law_asked) (by decide +kernel)) (tgr_name 9) (fun _ _ _ _ _ => (pg_name (i := 9) sc_law_asked.nd rfl (by first | exact Or.inl rfl | exact Or.inr rfl))) (fun _ _ _ _ _ => (pts1 (pt_pp op_notIn_seq (ro_in true) (pb_var (pv 9)) (pb_var (pv 6)) (by rfl)))) (fun _ _ _ _ _ => (pp_ice (pv 9))))))
 (ss_one (ss_ret (pp_and (pp_cal (js := []) 2 (ok_law_same T (k + 4)) hr (by rfl) T.d_law_same.g T.d_law_same.F.kp T.d_law_same.b (pal1 (pp_cal (js := []) 2 (ok_rest_of T (k + 0)) hr (by rfl) T.d_rest_of.g T.d_rest_of.F.kp T.d_rest_of.b (pal1 (pp_ice (pv 4)) (pal1 (pp_ice (pv 2)) pal0))) (pal1 (pp_ice (pv 8)) pal0))) (pe_one (pp_cal (js := [some 0]) 3 (ok_law_frees T (k + 2)) hr (by rfl) T.d_law_frees.g T.d_law_frees.F.kp T.d_law_frees.b (palz (pv 0) (pal1 (pp_ice (pv 1)) (pal1 (pp_ice (pv 2)) pal0)))))))))))))))))
theorem ok_law (T : Top K mg) (k : Nat) : FnOk P w K mg base CX0 (k + 7) T.d_law.f T.d_law.fd ["script"] (spP K 1 [] m_law) :=
 fn_p (N := ["script", "feed", "many", "wide", "order", "top", "links", "other", "whole", "place", "rule"]) (ps := ["script"]) (io := []) (k := k + 6) (body := b_law) T.d_law.F sc_law (fun cdv A outer s H E hr =>
 (ss_cons (ss_set (i := 1) sc_law.nd rfl (by first | exact Or.inl rfl | exact Or.inr rfl) (pp_cal (js := []) 1 (ok_law_feed T (k + 5)) hr (by rfl) T.d_law_feed.g T.d_law_feed.F.kp T.d_law_feed.b (pal1 (pp_ice (pv 0)) pal0)))
 (ss_cons (ss_set (i := 2) sc_law.nd rfl (by first | exact Or.inl rfl | exact Or.inr rfl) (bin_gg op_add' ro_add pp_int (pp_cal (js := [some 1]) 2 (ok_law_draw T (k + 5)) hr (by rfl) T.d_law_draw.g T.d_law_draw.F.kp T.d_law_draw.b (palz (pv 1) (pal1 pp_int pal0)))))
 (ss_cons (ss_set (i := 3) sc_law.nd rfl (by first | exact Or.inl rfl | exact Or.inr rfl) (cmp_gg (op_eqD hr.units) ro_eq (pp_cal (js := [some 1]) 2 (ok_law_draw T (k + 5)) hr (by rfl) T.d_law_draw.g T.d_law_draw.F.kp T.d_law_draw.b (palz (pv 1) (pal1 pp_int pal0))) pp_int (nomark _)))
 (ss_cons (ss_set (i := 4) sc_law.nd rfl (by first | exact Or.inl rfl | exact Or.inr rfl) (pp_cal (js := [some 1]) 2 (ok_law_shuffled T (k + 4)) hr (by rfl) T.d_law_shuffled.g T.d_law_shuffled.F.kp T.d_law_shuffled.b (palz (pv 1) (pal1 (pp_rngL rfl (by rfl) T.m_list (by rfl) T.m_range (pp_place (pb_var (pv 2)))) pal0))))
 (ss_cons (ss_if (pt_no (pt_tru (pp_cal (js := [some 1]) 4 (ok_law_asked T (k + 0)) hr (by rfl) T.d_law_asked.g T.d_law_asked.F.kp T.d_law_asked.b (palz (pv 1) (pal1 (pp_ice (pv 4)) (pal1 (pp_cal (js := [some 1]) 4 (ok_law_world T (k + 2)) hr (by rfl) T.d_law_world.g T.d_law_world.F.kp T.d_law_world.b (palz (pv 1) (pal1 (pp_ice (pv 4)) (pal1 (pp_ice (pv 2)) (pal1 (pp_ice (pv 3)) pal0))))) (pal1 (pp_ice (pv 4)) pal0)))))))
 (ss_one (ss_ret pp_bl))
 ss_nil)
 (ss_cons (ss_set (i := 5) sc_law.nd rfl (by first | exact Or.inl rfl | exact Or.inr rfl) (pp_cal (js := [some 1]) 2 (ok_law_draw T (k + 5)) hr (by rfl) T.d_law_draw.g T.d_law_draw.F.kp T.d_law_draw.b (palz (pv 1) (pal1 (pp_ice (pv 2)) pal0))))
 (ss_cons (ss_if (pt_no (pt_tru (pp_cal (js := [some 1]) 4 (ok_law_asked T (k + 0)) hr (by rfl) T.d_law_asked.g T.d_law_asked.F.kp T.d_law_asked.b (palz (pv 1) (pal1 (pp_ice (pv 4)) (pal1 (pp_cal (js := [some 1]) 4 (ok_law_world T (k + 2)) hr (by rfl) T.d_law_world.g T.d_law_world.F.kp T.d_law_world.b (palz (pv 1) (pal1 (pp_ice (pv 4)) (pal1 (pp_ice (pv 5)) (pal1 (pp_ice (pv 3)) pal0))))) (pal1 (sl_v (pv_var (pv 4)) po_n (po_s (pp_place (pb_var (pv 5))))) pal0)))))))
 (ss_one (ss_ret pp_bl))
 ss_nil)
 (ss_cons (ss_set (i := 6) sc_law.nd rfl (by first | exact Or.inl rfl | exact Or.inr rfl) (bt_g call_tuple_of ro_tuple (by rfl) T.m_tuple PyProof.Rows.boot_tuple (pp_comp (own := [("place", 9)]) rfl sc_law.nd (it_r1 (by rfl) T.m_range (pal1 (pp_place (pb_var (pv 2))) pal0)) (blkOk_by (own := [("place", 9)]) (N := ["script", "feed", "many", "wide", "order", "top", "links", "other", "whole", "place", "rule"]) (sc := defScope s_law) (by decide +kernel)) (tgr_name 9) (fun _ _ _ _ _ => (pg_name (i := 9) sc_law.nd rfl (by first | exact Or.inl rfl | exact Or.inr rfl))) (fun _ _ _ _ _ => pts0) (fun _ _ _ _ _ => (pp_cal (js := [some 1]) 3 (ok_law_link T (k + 3)) hr (by rfl) T.d_law_link.g T.d_law_link.F.kp T.d_law_link.b (palz (pv 1) (pal1 (pp_ice (pv 4)) (pal1 (pp_ice (pv 9)) pal0))))))))
 (ss_cons (ss_if (pt_no (pt_tru (pp_cal (js := []) 2 (ok_law_same_sets T (k + 4)) hr (by rfl) T.d_law_same_sets.g T.d_law_same_sets.F.kp T.d_law_same_sets.b (pal1 (pp_cal (js := []) 2 (ok_strata_of T (k + 3)) hr (by rfl) T.d_strata_of.g T.d_strata_of.F.kp T.d_strata_of.b (pal1 (pp_ice (pv 2)) (pal1 (pp_ice (pv 6)) pal0))) (pal1 (pp_comp (own := [("rule", 10)]) rfl sc_law.nd (it_v (pv 4)) (blkOk_by (own := [("rule", 10)]) (N := ["script", "feed", "many", "wide", "order", "top", "links", "other", "whole", "place", "rule"]) (sc := defScope s_law) (by decide +kernel)) (tgr_name 10) (fun _ _ _ _ _ => (pg_name (i := 10) sc_law.nd rfl (by first | exact Or.inl rfl | exact Or.inr rfl))) (fun _ _ _ _ _ => pts0) (fun _ _ _ _ _ => (pp_tup (pa1 (pp_ice (pv 10)) pa0)))) pal0)))))
 (ss_one (ss_ret pp_bl))
 ss_nil)
 (ss_cons (ss_if (pt_no (pt_tru (pp_cal (js := [some 1]) 4 (ok_law_asked T (k + 0)) hr (by rfl) T.d_law_asked.g T.d_law_asked.F.kp T.d_law_asked.b (palz (pv 1) (pal1 (pp_ice (pv 4)) (pal1 (pp_cal (js := [some 1]) 2 (ok_law_any_rows T (k + 3)) hr (by rfl) T.d_law_any_rows.g T.d_law_any_rows.F.kp T.d_law_any_rows.b (palz (pv 1) (pal1 (pp_ice (pv 2)) pal0))) (pal1 pp_non pal0)))))))
 (ss_one (ss_ret pp_bl))
 ss_nil)
 (ss_cons (ss_for PassesOwn.never rfl (it_r2 (by rfl) T.m_range (pal1 pp_int (pal1 pp_int pal0))) (pg_name (i := 7) sc_law.nd rfl (by first | exact Or.inl rfl | exact Or.inr rfl)) (tgr_name 7)
 (ss_cons (ss_set (i := 8) sc_law.nd rfl (by first | exact Or.inl rfl | exact Or.inr rfl) (pp_rngT rfl (by rfl) T.m_tuple (by rfl) T.m_range (pp_place (pb_var (pv 7)))))
 (ss_cons (ss_if (PW.pt (pw_orr (pt_no (pt_tru (pp_cal (js := []) 2 (ok_law_same_sets T (k + 4)) hr (by rfl) T.d_law_same_sets.g T.d_law_same_sets.F.kp T.d_law_same_sets.b (pal1 (pp_cal (js := []) 2 (ok_strata_of T (k + 3)) hr (by rfl) T.d_strata_of.g T.d_strata_of.F.kp T.d_strata_of.b (pal1 (pp_ice (pv 7)) (pal1 (pp_tup pa0) pal0))) (pal1 (pp_tup (pa1 (pp_ice (pv 8)) pa0)) pal0))))) (pw_or1 (pt_no (pt_tru (pp_cal (js := []) 2 (ok_law_same T (k + 5)) hr (by rfl) T.d_law_same.g T.d_law_same.F.kp T.d_law_same.b (pal1 (pp_cal (js := []) 2 (ok_rest_of T (k + 1)) hr (by rfl) T.d_rest_of.g T.d_rest_of.F.kp T.d_rest_of.b (pal1 (pp_ice (pv 7)) (pal1 (pp_tup pa0) pal0))) (pal1 (pp_tup pa0) pal0))))))))
 (ss_one (ss_ret pp_bl))
 ss_nil)
 (ss_one (ss_if (PW.pt (pw_orr (pt_no (pt_tru (pp_cal (js := []) 2 (ok_law_same T (k + 5)) hr (by rfl) T.d_law_same.g T.d_law_same.F.kp T.d_law_same.b (pal1 (pp_cal (js := []) 2 (ok_reach_of T (k + 2)) hr (by rfl) T.d_reach_of.g T.d_reach_of.F.kp T.d_reach_of.b (pal1 (pp_ice (pv 7)) (pal1 (pp_tup pa0) pal0))) (pal1 (pp_ice (pv 8)) pal0))))) (pw_or1 (pt_no (pt_tru (pp_cal (js := []) 2 (ok_law_same T (k + 5)) hr (by rfl) T.d_law_same.g T.d_law_same.F.kp T.d_law_same.b (pal1 (pp_cal (js := []) 3 (ok_free_rules T (k + 4)) hr (by rfl) T.d_free_rules.g T.d_free_rules.F.kp T.d_free_rules.b (pal1 (pp_ice (pv 7)) (pal1 (pp_tup pa0) (pal1 (sl_v (pv_var (pv 8)) po_n (po_s pp_int)) pal0)))) (pal1 (sl_v (pv_var (pv 8)) (po_s pp_int) po_n) pal0))))))))
 (ss_one (ss_ret pp_bl))
 ss_nil)))))
 (ss_one (ss_ret pp_bl))))))))))))))
end
end K16


set_option autoImplicit false
namespace K16
open PySem PySem.Spec L2 Pm
theorem draw_ok {f : D} (hf : Fd f) {m : Int} (h1 : 1 ≤ m) (h2 : m ≤ 1000000000) : WpR (m_law_draw [f, .int m]) (DrawQ m) := by
  refine wpr_mk rfl ?_
  unfold b_law_draw startE
  rw [wp_Seq]
  refine Wp.mono (Q := fun fl w => fl = .nx ∧ ∃ f' c, Fd f' ∧ w = [some f', some (.int m), c, none]) ?_ ?_
  · obtain ⟨ns, p, b, s, rfl, hb, hs, hs2⟩ := hf
    have hF : ∀ {p : Nat} {b s : Int}, 0 ≤ b → 0 ≤ s → s < 2147483647 → Fd (.own [.lst (ns.map .int), .int p, .int b, .int s]) := fun h1 h2 h3 => ⟨_, _, _, _, rfl, h1, h2, h3⟩
    have hF1 : ∀ {b s : Int}, 0 ≤ b → 0 ≤ s → s < 2147483647 → Fd (.own [.lst (ns.map .int), .int ((p : Int) + 1), .int b, .int s]) := fun {b s} h1 h2 h3 => hF (p := p + 1) h1 h2 h3
    simp [-Int.reducePow]
    by_cases c : b = 0
    · subst c
      simp [-Int.reducePow]
      by_cases c2 : p < ns.length
      · have g : seqIx (ns.map D.int) (p : Int) = some (.int ns[p]) := seqIx_ints (List.getElem?_eq_getElem c2)
        simp [c2, g, -Int.reducePow]
        have key : ∀ x : Int, 0 ≤ x → powC 10 18 = true ∧ brQ (decide (x < 10 ^ 18)) (mulC s 40692 = true ∧ mulC x 37 = true ∧ Fd (D.own [D.lst (List.map D.int ns), D.int (↑p + 1), D.int 0, D.int ((s * 40692 + x * 37 + 3) % 2147483629)]))
            (powC 10 60 = true ∧ powC (10 ^ 60) 10 = true ∧ 0 < (10 ^ 60 : Int) ^ 10 ∧ Fd (D.own [D.lst (List.map D.int ns), D.int (↑p + 1), D.int (x % (10 ^ 60) ^ 10), D.int s])) := fun x hx => by
          refine ⟨pow18, brQ_of (fun h => ?_) fun h => ?_⟩
          · have hc : x < 10 ^ 18 := of_decide_eq_true h
            exact ⟨mulC_s (by omega) (by omega) (by omega) (by omega), mulC_s (by omega) (by have := p18; omega) (by omega) (by omega), hF1 (by omega) (by omega) (by omega)⟩
          · exact ⟨pow60, pow600, p600, hF1 (Int.emod_nonneg _ (by have := p600; omega)) hs hs2⟩
        by_cases hx : ns[p] < 0
        · simp [hx, -Int.reducePow]
          exact key _ (by omega)
        · simp [hx, -Int.reducePow]
          exact key _ (by omega)
      · simp [c2]
        exact hF hb hs hs2
    · simp [c]
      exact hF hb hs hs2
  · rintro fl w ⟨rfl, f', c, ⟨ns, p, b, s, rfl, hb, hs, hs2⟩, rfl⟩
    have hF : ∀ {p : Nat} {b s : Int}, 0 ≤ b → 0 ≤ s → s < 2147483647 → Fd (.own [.lst (ns.map .int), .int p, .int b, .int s]) := fun h1 h2 h3 => ⟨_, _, _, _, rfl, h1, h2, h3⟩
    have m0 : 0 < m := by omega
    have m1 : m < 1073741824 := by omega
    by_cases c : 0 < b
    · simp [c, m0, m1]
      exact ⟨_, _, rfl, rfl, Int.emod_nonneg _ (by omega), Int.emod_lt_of_pos _ (by omega), hF (Int.ediv_nonneg hb (by omega)) hs hs2⟩
    · have e1 : mulC s 39373 = true := mulC_s (by omega) (by omega) (by omega) (by omega)
      simp [c, m0, e1]
      exact ⟨_, _, rfl, rfl, Int.emod_nonneg _ (by omega), Int.emod_lt_of_pos _ (by omega), hF (by omega) (by omega) (by omega)⟩
theorem size_ok {f : D} (hf : Fd f) : WpR (m_law_size [f]) SizeQ := by
  refine wpr_mk rfl ?_
  unfold b_law_size startE
  simp [hf]
  refine WpR.mono (draw_ok hf (by decide) (by decide)) ?_
  rintro d os ⟨v, f', rfl, rfl, hv0, hv1, hf'⟩
  simp
  by_cases c : v < 2
  · simp [c]
    exact ⟨_, _, rfl, rfl, by omega, by omega, hf'⟩
  by_cases c2 : v = 2
  · simp [c, c2, hf']
    refine WpR.mono (draw_ok hf' (by decide) (by decide)) ?_
    rintro d os ⟨u, f2, rfl, rfl, hu0, hu1, hf2⟩
    simp
    exact ⟨_, _, rfl, rfl, by omega, by omega, hf2⟩
  by_cases c3 : v = 3
  · simp [c, c2, c3, pow6, hf']
    refine WpR.mono (draw_ok hf' (by decide) (by decide)) ?_
    rintro d os ⟨u, f2, rfl, rfl, hu0, hu1, hf2⟩
    simp
    exact ⟨_, _, rfl, rfl, by omega, by omega, hf2⟩
  simp [c, c2, c3, pow6, hf']
  refine WpR.mono (draw_ok hf' (by decide) (by decide)) ?_
  rintro d os ⟨u, f2, rfl, rfl, hu0, hu1, hf2⟩
  simp
  exact ⟨_, _, rfl, rfl, by omega, by omega, hf2⟩
theorem feed_ok {ns : List Int} : WpR (m_law_feed [.lst (ns.map .int)]) fun d os => Fd d ∧ os = [] := by
  refine wpr_mk rfl ?_
  unfold b_law_feed
  rw [show startE 3 [.lst (ns.map D.int)] = [some (.lst (ns.map .int)), none, none] from rfl]
  refine wp_mid (fun w => ∃ ms : List Int, ms.length ≤ 63 ∧ w = [some (.lst (ns.map .int)), some (.own (ms.map .int)), none]) ?_ ?_
  · have ct : cutD (ns.map D.int) none (some (63 : Int)) = (ns.take 63).map D.int := by
      rw [show (63 : Int) = ((63 : Nat) : Int) from rfl, cutD_to, List.map_take]
    simp only [lz_Set, wp_Comp, lz_iW, wp_cons, lz_Slv, slot_zero, slot_succ, ob_some, wp_bN, lz_bS, wp_C, intD_int, dSl_lst, pls_ints, if_true, ct, wp_nil, lz_qG, seqP_own]
    refine lz_cmp (fun i acc w => ∃ x, acc = ((ns.take 63).take i).map D.int ∧ w = [some (.lst (ns.map .int)), none, x]) ⟨none, rfl, rfl⟩ ?_ ?_
    · rintro acc w ⟨x, rfl, rfl⟩
      rw [List.length_map, List.take_length]
      simp
      exact ⟨ns.take 63, by rw [List.length_take]; omega, by rw [List.map_take]⟩
    · rintro i d acc w hi ⟨x, rfl, rfl⟩
      obtain ⟨hi', rfl⟩ := ints_at hi
      have hl : (ns.take 63).length ≤ 63 := by rw [List.length_take]; omega
      generalize ns.take 63 = ms at hi' hl
      simp
      refine ⟨line' (by omega), ?_⟩
      rw [List.take_add_one, List.getElem?_map, List.getElem?_eq_getElem hi']
      rfl
  · rintro w ⟨ms, hl, rfl⟩
    have e : mulC (ms.length : Int) 6007 = true := mulC_s (by omega) (by omega) (by omega) (by omega)
    simp [e]
    exact ⟨ms, 0, 0, _, rfl, by omega, by omega, by omega⟩
/-! a list shuffled -/
def ShQ (l : List Int) : D → List D → Prop := fun d os => ∃ (o : List Int) (f' : D), d = .own (o.map .int) ∧ os = [f'] ∧ o.Perm l ∧ Fd f'
def ShQD (l : List D) : D → List D → Prop := fun d os => ∃ (o : List D) (f' : D), d = .own o ∧ os = [f'] ∧ o.Perm l ∧ Fd f'
theorem perm_popD {o l : List D} {k : Nat} {z : List D} (hk : k < l.length) (h : (o ++ l).Perm z) : ((o ++ [l[k]]) ++ l.eraseIdx k).Perm z := by
  refine List.Perm.trans ?_ h
  rw [List.append_assoc]
  exact List.Perm.append_left o (get_erase hk)
theorem shuffledD_ok {f d0 : D} (hf : Fd f) {l : List D} (hd : d0 = .own l ∨ d0 = .lst l) (hp : pls l = true) (h2 : l.length ≤ 1000) : WpR (m_law_shuffled [f, d0]) (ShQD l) := by
  have e1 : dList d0 = some (.own l) := by rcases hd with rfl | rfl <;> (show (if pls l = true then some (D.own l) else none) = _; rw [if_pos hp])
  have e2 : dLen d0 = some (.int l.length) := by rcases hd with rfl | rfl <;> rfl
  have rc : rngC (l.length : Int) = true := rngC_of (by omega) (by omega)
  refine wpr_mk rfl ?_
  unfold b_law_shuffled startE
  simp [e1, e2, rc]
  refine lz_for (fun i w => ∃ f' x, ∃ m o : List D, w = [some f', some d0, some (.own m), some (.own o), x] ∧ m.length + i = l.length ∧ o.length = i ∧ (o ++ m).Perm l ∧ Fd f') ⟨f, none, l, [], rfl, by omega, rfl, List.Perm.refl _, hf⟩ ?_ ?_
  · rintro w ⟨f', x, m, o, rfl, hl, ho, hp', hf'⟩
    rw [rngD_len] at hl
    have e : m = [] := List.length_eq_zero_iff.mp (by omega)
    subst e
    rw [List.append_nil] at hp'
    simp
    exact ⟨o, f', rfl, rfl, hp', hf'⟩
  · rintro i d w hi ⟨f', x, m, o, rfl, hl, ho, hp', hf'⟩
    have hi2 : i < l.length := by
      have := (List.getElem?_eq_some_iff.mp hi).1
      rw [rngD_len] at this; exact this
    simp [hf']
    refine WpR.mono (draw_ok hf' (by omega) (by omega)) ?_
    rintro d os ⟨v, f2, rfl, rfl, hv0, hv1, hf2⟩
    have hk : v.toNat < m.length := by omega
    simp [ixN_at hv0 hv1, List.getElem?_eq_getElem hk, line (show m.length ≤ 1000000 by omega), line' (show o.length < 1000000 by omega)]
    refine ⟨f2, _, m.eraseIdx v.toNat, o ++ [m[v.toNat]], ⟨rfl, rfl, rfl, rfl⟩, ?_, by simp [ho], perm_popD hk hp', hf2⟩
    rw [List.length_eraseIdx_of_lt hk]; omega
theorem perm_mapD {α : Type} {g : α → D} (inj : ∀ a b, g a = g b → a = b) {o : List D} {l : List α} (h : o.Perm (l.map g)) : ∃ m : List α, o = m.map g ∧ m.Perm l := by
  have : ∀ {o : List D} {z : List D}, o.Perm z → ∀ l : List α, z = l.map g → ∃ m : List α, o = m.map g ∧ m.Perm l := fun {o z} h => by
    induction h with
    | nil => intro l e; exact ⟨[], rfl, by rw [List.map_eq_nil_iff.mp e.symm]⟩
    | cons x _ ih =>
      intro l e
      cases l with
      | nil => cases e
      | cons a l =>
        injection e with e1 e2
        obtain ⟨m, rfl, h2⟩ := ih l e2
        exact ⟨a :: m, by rw [e1]; rfl, h2.cons a⟩
    | swap x y _ =>
      intro l e
      match l, e with
      | a :: b :: l, e =>
        injection e with e1 e2
        injection e2 with e2 e3
        exact ⟨b :: a :: l, by rw [e1, e2, e3]; rfl, List.Perm.swap a b l⟩
    | trans _ _ ih1 ih2 =>
      intro l e
      obtain ⟨m, e1, h1⟩ := ih2 l e
      obtain ⟨m2, e2, h2⟩ := ih1 m e1
      exact ⟨m2, e2, h2.trans h1⟩
  exact this h l rfl
theorem int_inj (a b : Int) (h : D.int a = D.int b) : a = b := by injection h
theorem row_inj (a b : List Int) (h : D.tup (a.map D.int) = D.tup (b.map D.int)) : a = b := by
  injection h with h
  exact (List.map_inj_right int_inj).mp h
end K16

set_option autoImplicit false
namespace K16
open PySem PySem.Spec L2 Pm
/-! rows made -/
theorem z0 (n : Nat) (j : Int) : atR (List.replicate n 0) j = 0 := by
  unfold atR
  rw [List.getD_eq_getElem?_getD, List.getElem?_replicate]
  by_cases h : j.toNat < n
  · rw [if_pos h]; rfl
  · rw [if_neg h]; rfl
def RQ (P : List Int → Prop) : D → List D → Prop := fun d os => ∃ (r : List Int) (f' : D), d = .tup (r.map .int) ∧ os = [f'] ∧ Fd f' ∧ P r
def LeadP (n : Nat) (o : List Int) (p : Nat) (r : List Int) : Prop := r.length = n ∧ (∀ q (hq : q < o.length), q < p → atR r o[q] = 0) ∧ (∀ hq : p < o.length, 1 ≤ atR r o[p])
theorem em_rep {o : List Int} {n : Nat} (h : o.length = n) : List.map ((fun x => D.int 0) ∘ D.int) o = List.replicate n (D.int 0) := by
  show List.map (fun _ => D.int 0) o = _
  rw [List.map_const', h]
theorem lead_ok {f : D} (hf : Fd f) {n p : Nat} {o : List Int} (ho : IsOrd n o) (hn : n ≤ 1000) (hp : p < n) : WpR (m_law_lead [f, .lst (o.map .int), .int (p : Int), .int 1]) (RQ (LeadP n o p)) := by
  have hol : o.length = n := ho.2.1
  have c : p < o.length := by omega
  refine wpr_mk rfl ?_
  unfold b_law_lead
  rw [show startE 6 [f, .lst (o.map .int), .int (p : Int), .int 1] = [some f, some (.lst (o.map .int)), some (.int (p : Int)), some (.int 1), none, none] from rfl]
  refine wp_mid (fun w => w = [some f, some (.lst (o.map .int)), some (.int p), some (.int 1), some (.own ((List.replicate n (0 : Int)).map D.int)), none]) ?_ ?_
  · simp
    refine cmp_const (by simp) (by rw [List.length_map]; omega) fun w2 e => ?_
    simp at e
    have el : w2.length = 6 := by
      have := congrArg List.length e
      simpa using this
    simp [e, el, em_rep hol]
  rintro w rfl
  refine wp_mid (fun w => ∃ f' x, ∃ r : List Int, w = [some f', some (.lst (o.map .int)), some (.int p), some (.int 1), some (.own (r.map .int)), x] ∧ Fd f' ∧ LeadP n o p r) ?_ ?_
  · obtain ⟨g1, g2⟩ := ord_get ho c
    have gx : seqIx (o.map D.int) (p : Int) = some (.int o[p]) := seqIx_ints (List.getElem?_eq_getElem c)
    simp [hf]
    refine WpR.mono (size_ok hf) ?_
    rintro d os ⟨u, f3, rfl, rfl, hu0, hu1, hf3⟩
    have e1 : mulC 1 u = true := mulC_s (by omega) (by omega) (by omega) (by omega)
    simp [e1, gx, ixN_at g1 g2]
    refine ⟨f3, _, (List.replicate n (0 : Int)).set (o[p]).toNat u, ⟨rfl, ?_, rfl⟩, hf3, by simp, fun q hq l => ?_, fun _ => ?_⟩
    · rw [← ints_set, List.map_replicate]
    · rw [atR_set g1 (ord_get ho hq).1, if_neg (fun z => ord_ne ho c hq (by omega) z.1)]
      exact z0 _ _
    · rw [atR_set g1 g1, if_pos ⟨rfl, by rw [List.length_replicate]; exact g2⟩]; exact hu0
  · rintro w ⟨f', x, r, rfl, hf', hr, h0, h1⟩
    simp
    rw [show ((p : Int) + 1) = ((p + 1 : Nat) : Int) by omega, cutD_from]
    have pd : pls ((o.map D.int).drop (p + 1)) = true := by rw [← List.map_drop]; exact pls_ints
    simp [pd]
    refine lz_for (fun i w => ∃ f' x, ∃ r : List Int, w = [some f', some (.lst (o.map .int)), some (.int p), some (.int 1), some (.own (r.map .int)), x] ∧ Fd f' ∧ LeadP n o p r) ⟨f', x, r, rfl, hf', hr, h0, h1⟩ ?_ ?_
    · rintro w ⟨f', x, r, rfl, hf', hr⟩
      simp
      exact ⟨r, f', rfl, rfl, hf', hr⟩
    · rintro i d w hi ⟨f', x, r, rfl, hf', hr, h0, h1⟩
      rw [← List.map_drop] at hi
      obtain ⟨hi', rfl⟩ := ints_at hi
      rw [List.length_drop] at hi'
      have ei : (o.drop (p + 1))[i] = o[p + 1 + i] := List.getElem_drop ..
      have hq : p + 1 + i < o.length := by omega
      rw [ei]
      obtain ⟨g1, g2⟩ := ord_get ho hq
      simp [hf']
      refine WpR.mono (draw_ok hf' (by decide) (by decide)) ?_
      rintro d os ⟨v, f2, rfl, rfl, hv0, hv1, hf2⟩
      simp [hf2]
      refine WpR.mono (size_ok hf2) ?_
      rintro d os ⟨u, f3, rfl, rfl, hu0, hu1, hf3⟩
      have e1 : mulC (v - 1) u = true := mulC_s (by omega) (by omega) (by omega) (by omega)
      simp [e1, hr, ixN_at g1 g2]
      refine ⟨f3, _, r.set (o[p + 1 + i]).toNat ((v - 1) * u), ⟨rfl, ints_set, rfl⟩, hf3, by simp [hr], fun q hq' l => ?_, fun hq' => ?_⟩
      · rw [atR_set g1 (ord_get ho hq').1, if_neg (fun z => ord_ne ho hq hq' (by omega) z.1)]
        exact h0 q hq' l
      · rw [atR_set g1 (ord_get ho hq').1, if_neg (fun z => ord_ne ho hq hq' (by omega) z.1)]
        exact h1 hq'
def LinkP (n : Nat) (o : List Int) (p : Nat) (r : List Int) : Prop := r.length = n ∧ (∀ q (hq : q < o.length), q < p → atR r o[q] = 0) ∧ (∀ hq : p < o.length, 1 ≤ atR r o[p]) ∧ (∀ hq : p + 1 < o.length, atR r o[p + 1] < 0) ∧ (∀ q (hq : q < o.length), p + 1 < q → atR r o[q] = 0)
theorem link_ok {f : D} (hf : Fd f) {n p : Nat} {o : List Int} (ho : IsOrd n o) (hn : n ≤ 1000) (hp : p < n) : WpR (m_law_link [f, .lst (o.map .int), .int (p : Int)]) (RQ (LinkP n o p)) := by
  have hol : o.length = n := ho.2.1
  have c : p < o.length := by omega
  obtain ⟨g1, g2⟩ := ord_get ho c
  have gx : seqIx (o.map D.int) (p : Int) = some (.int o[p]) := seqIx_ints (List.getElem?_eq_getElem c)
  refine wpr_mk rfl ?_
  unfold b_law_link
  rw [show startE 5 [f, .lst (o.map .int), .int (p : Int)] = [some f, some (.lst (o.map .int)), some (.int (p : Int)), none, none] from rfl]
  refine wp_mid (fun w => w = [some f, some (.lst (o.map .int)), some (.int p), some (.own ((List.replicate n (0 : Int)).map D.int)), none]) ?_ ?_
  · simp
    refine cmp_const (by simp) (by rw [List.length_map]; omega) fun w2 e => ?_
    simp at e
    have el : w2.length = 5 := by
      have := congrArg List.length e
      simpa using this
    simp [e, el, em_rep hol]
  rintro w rfl
  refine wp_mid (fun w => ∃ f', ∃ u : Int, w = [some f', some (.lst (o.map .int)), some (.int p), some (.own (((List.replicate n (0 : Int)).set (o[p]).toNat u).map .int)), none] ∧ Fd f' ∧ 1 ≤ u) ?_ ?_
  · simp [hf]
    refine WpR.mono (size_ok hf) ?_
    rintro d os ⟨u, f3, rfl, rfl, hu0, hu1, hf3⟩
    simp [gx, ixN_at g1 g2]
    exact ⟨f3, u, ⟨rfl, rfl⟩, hf3, hu0⟩
  rintro w ⟨f1, u, rfl, hf1, hu⟩
  have a1 : atR ((List.replicate n (0 : Int)).set (o[p]).toNat u) o[p] = u := by rw [atR_set g1 g1, if_pos ⟨rfl, by rw [List.length_replicate]; exact g2⟩]
  have a2 : ∀ q (hq : q < o.length), q ≠ p → atR ((List.replicate n (0 : Int)).set (o[p]).toNat u) o[q] = 0 := fun q hq hne => by
    rw [atR_set g1 (ord_get ho hq).1, if_neg (fun z => ord_ne ho c hq (Ne.symm hne) z.1)]; exact z0 _ _
  have a3 : ((List.replicate n (0 : Int)).set (o[p]).toNat u).length = n := by simp
  generalize (List.replicate n (0 : Int)).set (o[p]).toNat u = r1 at a1 a2 a3
  by_cases c2 : p + 1 < o.length
  · obtain ⟨k1, k2⟩ := ord_get ho c2
    have gy : seqIx (o.map D.int) ((p : Int) + 1) = some (.int o[p + 1]) := seqIx_ints (i := p + 1) (List.getElem?_eq_getElem c2)
    have lt : (p : Int) + 1 < (o.length : Int) := by omega
    simp [hf1, lt]
    refine WpR.mono (size_ok hf1) ?_
    rintro d os ⟨v, f3, rfl, rfl, hv0, hv1, hf3⟩
    have ix : ixN r1.length o[p + 1] = some (o[p + 1]).toNat := ixN_at k1 (by rw [a3]; exact k2)
    have pl2 : pls ((r1.map D.int).set (o[p + 1]).toNat (D.int (-v))) = true := by rw [ints_set]; exact pls_ints
    simp [gy, ix, pl2]
    refine ⟨r1.set (o[p + 1]).toNat (-v), f3, by rw [ints_set], rfl, hf3, by simp [a3], fun q hq l => ?_, fun _ => ?_, fun _ => ?_, fun q hq l => ?_⟩
    · rw [atR_set k1 (ord_get ho hq).1, if_neg (fun z => ord_ne ho c2 hq (by omega) z.1)]; exact a2 q hq (by omega)
    · rw [atR_set k1 g1, if_neg (fun z => ord_ne ho c2 c (by omega) z.1), a1]; exact hu
    · rw [atR_set k1 k1, if_pos ⟨rfl, by rw [a3]; exact k2⟩]; omega
    · rw [atR_set k1 (ord_get ho hq).1, if_neg (fun z => ord_ne ho c2 hq (by omega) z.1)]; exact a2 q hq (by omega)
  · have lt : ¬ (p : Int) + 1 < (o.length : Int) := by omega
    simp [lt]
    exact ⟨r1, f1, rfl, rfl, hf1, a3, fun q hq l => a2 q hq (by omega), fun _ => by rw [a1]; exact hu, fun h => absurd h c2, fun q hq l => absurd hq (by omega)⟩
def PlainP (n : Nat) (r : List Int) : Prop := r.length = n ∧ ∀ i, 0 ≤ atR r i
theorem atR_app {r : List Int} {v : Int} (h : 0 ≤ v) (hr : ∀ i, 0 ≤ atR r i) (i : Int) : 0 ≤ atR (r ++ [v]) i := by
  have := hr i
  unfold atR at this ⊢
  rw [List.getD_eq_getElem?_getD] at this ⊢
  rw [List.getElem?_append]
  by_cases c : i.toNat < r.length
  · rw [if_pos c]; exact this
  · rw [if_neg c]
    by_cases c2 : i.toNat - r.length = 0
    · rw [c2]; simpa using h
    · rw [List.getElem?_eq_none (by simp; omega)]; simp
theorem plain_ok {f : D} (hf : Fd f) {n : Nat} (h2 : n ≤ 1000) : WpR (m_law_plain [f, .int (n : Int)]) (RQ (PlainP n)) := by
  refine wpr_mk rfl ?_
  unfold b_law_plain startE
  have rc : rngC (n : Int) = true := rngC_of (by omega) (by omega)
  simp [rc]
  refine lz_for (fun i w => ∃ f' x, ∃ r : List Int, w = [some f', some (.int (n : Int)), some (.own (r.map .int)), x] ∧ r.length = i ∧ (∀ i, 0 ≤ atR r i) ∧ Fd f') ⟨f, none, [], rfl, rfl, fun i => by simp [atR], hf⟩ ?_ ?_
  · rintro w ⟨f', x, r, rfl, hl, hr, hf'⟩
    rw [rngD_len] at hl
    simp
    exact ⟨r, f', rfl, rfl, hf', by omega, hr⟩
  · rintro i d w hi ⟨f', x, r, rfl, hl, hr, hf'⟩
    obtain ⟨rfl, hi2⟩ := toNat_range (n := (n : Int)) i (by simpa using hi)
    simp [hf']
    refine WpR.mono (draw_ok hf' (by decide) (by decide)) ?_
    rintro d os ⟨v, f2, rfl, rfl, hv0, hv1, hf2⟩
    simp [hf2]
    refine WpR.mono (size_ok hf2) ?_
    rintro d os ⟨u, f3, rfl, rfl, hu0, hu1, hf3⟩
    have e1 : mulC v u = true := mulC_s (by omega) (by omega) (by omega) (by omega)
    simp [e1]
    exact ⟨line' (by omega), f3, _, r ++ [v * u], ⟨rfl, by simp, rfl⟩, by simp [hl], atR_app (Int.mul_nonneg hv0 (by omega)) hr, hf3⟩
def BarP (n : Nat) (o : List Int) (top : Nat) (rule : Int) (r : List Int) : Prop := r.length = n ∧ (∀ q (hq : q < o.length), q < top → atR r o[q] = 0) ∧ atR r rule < 0
theorem bar_ok {f : D} (hf : Fd f) {n top j : Nat} {o : List Int} (ho : IsOrd n o) (hn : n ≤ 1000) (hj : j < o.length) (ht : top ≤ j) : WpR (m_law_bar_row [f, .lst (o.map .int), .int (top : Int), .int o[j]]) (RQ (BarP n o top o[j])) := by
  have hol : o.length = n := ho.2.1
  refine wpr_mk rfl ?_
  unfold b_law_bar_row
  rw [show startE 6 [f, .lst (o.map .int), .int (top : Int), .int o[j]] = [some f, some (.lst (o.map .int)), some (.int (top : Int)), some (.int o[j]), none, none] from rfl]
  refine wp_mid (fun w => w = [some f, some (.lst (o.map .int)), some (.int top), some (.int o[j]), some (.own ((List.replicate n (0 : Int)).map D.int)), none]) ?_ ?_
  · simp
    refine cmp_const (by simp) (by rw [List.length_map]; omega) fun w2 e => ?_
    simp at e
    have el : w2.length = 6 := by
      have := congrArg List.length e
      simpa using this
    simp [e, el, em_rep hol]
  rintro w rfl
  refine wp_mid (fun w => ∃ f' x, ∃ r : List Int, w = [some f', some (.lst (o.map .int)), some (.int top), some (.int o[j]), some (.own (r.map .int)), x] ∧ Fd f' ∧ r.length = n ∧ (∀ q (hq : q < o.length), q < top → atR r o[q] = 0)) ?_ ?_
  · have pd : pls ((o.map D.int).drop top) = true := by rw [← List.map_drop]; exact pls_ints
    simp [cutD_from, pd]
    refine lz_for (fun i w => ∃ f' x, ∃ r : List Int, w = [some f', some (.lst (o.map .int)), some (.int top), some (.int o[j]), some (.own (r.map .int)), x] ∧ Fd f' ∧ r.length = n ∧ (∀ q (hq : q < o.length), q < top → atR r o[q] = 0)) ⟨f, none, List.replicate n 0, by rw [List.map_replicate], hf, by simp, fun q hq l => z0 _ _⟩ ?_ ?_
    · rintro w ⟨f', x, r, rfl, hf', hr, h0⟩
      simp
      exact ⟨f', _, r, ⟨rfl, rfl, rfl⟩, hf', hr, h0⟩
    · rintro i d w hi ⟨f', x, r, rfl, hf', hr, h0⟩
      rw [← List.map_drop] at hi
      obtain ⟨hi', rfl⟩ := ints_at hi
      rw [List.length_drop] at hi'
      have ei : (o.drop top)[i] = o[top + i] := List.getElem_drop ..
      have hq : top + i < o.length := by omega
      rw [ei]
      obtain ⟨g1, g2⟩ := ord_get ho hq
      simp [hf']
      refine WpR.mono (draw_ok hf' (by decide) (by decide)) ?_
      rintro d os ⟨v, f2, rfl, rfl, hv0, hv1, hf2⟩
      simp [hf2]
      refine WpR.mono (size_ok hf2) ?_
      rintro d os ⟨u, f3, rfl, rfl, hu0, hu1, hf3⟩
      have e1 : mulC (v - 1) u = true := mulC_s (by omega) (by omega) (by omega) (by omega)
      simp [e1, hr, ixN_at g1 g2]
      refine ⟨f3, _, r.set (o[top + i]).toNat ((v - 1) * u), ⟨rfl, ints_set, rfl⟩, hf3, by simp [hr], fun q hq' l => ?_⟩
      rw [atR_set g1 (ord_get ho hq').1, if_neg (fun z => ord_ne ho hq hq' (by omega) z.1)]
      exact h0 q hq' l
  · rintro w ⟨f', x, r, rfl, hf', hr, h0⟩
    obtain ⟨g1, g2⟩ := ord_get ho hj
    simp [hf']
    refine WpR.mono (size_ok hf') ?_
    rintro d os ⟨v, f3, rfl, rfl, hv0, hv1, hf3⟩
    have ix : ixN r.length o[j] = some (o[j]).toNat := ixN_at g1 (by rw [hr]; exact g2)
    have pl2 : pls ((r.map D.int).set (o[j]).toNat (D.int (-v))) = true := by rw [ints_set]; exact pls_ints
    simp [ix, pl2]
    refine ⟨r.set (o[j]).toNat (-v), f3, by rw [ints_set], rfl, hf3, by simp [hr], fun q hq l => ?_, ?_⟩
    · rw [atR_set g1 (ord_get ho hq).1, if_neg (fun z => ord_ne ho hj hq (by omega) z.1)]; exact h0 q hq l
    · rw [atR_set g1 g1, if_pos ⟨rfl, by rw [hr]; exact g2⟩]; omega
end K16

set_option autoImplicit false
namespace K16
open PySem PySem.Spec L2 Pm
theorem bel_plain {r : List Int} (h : ∀ i, 0 ≤ atR r i) : ∀ o : List Int, bel r o = false
  | [] => rfl
  | i :: o => by
    show (if atR r i = 0 then bel r o else decide (atR r i < 0)) = false
    by_cases c : atR r i = 0
    · rw [if_pos c]; exact bel_plain h o
    · rw [if_neg c, decide_eq_false_iff_not]; have := h i; omega
theorem take_lt {o : List Int} {top p : Nat} (hp : p < top) (hl : p < o.length) : p < (o.take top).length := by
  rw [List.length_take]; omega
theorem bel_at {r o : List Int} {top p : Nat} (hp : p < top) (hl : p < o.length) (h : ∀ q (hq : q < o.length), q < p → atR r o[q] = 0) (e : 1 ≤ atR r o[p]) : bel r (o.take top) = false := by
  rw [bel_lead (v := atR r o[p]) (by omega) (take_lt hp hl) (fun q hq l => by rw [List.getElem_take]; exact h q (by rw [List.length_take] at hq; omega) l) (by rw [List.getElem_take])]
  rw [decide_eq_false_iff_not]; omega
theorem bel_none {r o : List Int} {top : Nat} (h : ∀ q (hq : q < o.length), q < top → atR r o[q] = 0) : bel r (o.take top) = false := by
  refine bel_zero fun i m => ?_
  obtain ⟨q, hq, rfl⟩ := List.mem_iff_getElem.mp m
  rw [List.getElem_take]
  rw [List.length_take] at hq
  exact h q (by omega) (by omega)
def Fit (n : Nat) (o : List Int) (top : Nat) (rows : List (List Int)) : Prop := ∀ r ∈ rows, r.length = n ∧ bel r (o.take top) = false
def Bars (o : List Int) (top m : Nat) (rows : List (List Int)) : Prop := ∀ j (hj : j < o.length), top ≤ j → j < m → ∃ r ∈ rows, (∀ q (hq : q < o.length), q < top → atR r o[q] = 0) ∧ atR r o[j] < 0
theorem Fit.add {n top : Nat} {o r : List Int} {rows : List (List Int)} (h : Fit n o top rows) (h1 : r.length = n) (h2 : bel r (o.take top) = false) : Fit n o top (rows ++ [r]) := fun y m => by
  rcases List.mem_append.mp m with m | m
  · exact h y m
  · rw [List.mem_singleton.mp m]; exact ⟨h1, h2⟩
def World (n : Nat) (o : List Int) (top : Nat) (rows : List (List Int)) : Prop := Fit n o top rows ∧ Bars o top o.length rows
def WorldQ (n : Nat) (o : List Int) (top : Nat) : D → List D → Prop := fun d os => ∃ (rows : List (List Int)) (f' : D), d = .tup (rowsD rows) ∧ os = [f'] ∧ Fd f' ∧ rows.length ≤ 1000 ∧ World n o top rows
theorem World.perm {n top : Nat} {o : List Int} {a b : List (List Int)} (h : World n o top a) (p : ∀ r, r ∈ b ↔ r ∈ a) : World n o top b :=
  ⟨fun r m => h.1 r ((p r).mp m), fun j hj l1 l2 => by
    obtain ⟨r, m, hr⟩ := h.2 j hj l1 l2
    exact ⟨r, (p r).mpr m, hr⟩⟩
theorem world_ok {f : D} (hf : Fd f) {n top : Nat} {o : List Int} {wide : Bool} (ho : IsOrd n o) (hn : n ≤ 6) (ht : top ≤ n) : WpR (m_law_world [f, .lst (o.map .int), .int (top : Int), .bl wide]) (WorldQ n o top) := by
  have hol : o.length = n := ho.2.1
  refine wpr_mk rfl ?_
  unfold b_law_world
  rw [show startE 11 [f, .lst (o.map .int), .int (top : Int), .bl wide] = [some f, some (.lst (o.map .int)), some (.int (top : Int)), some (.bl wide), none, none, none, none, none, none, none] from rfl]
  refine wp_mid (fun w => w = [some f, some (.lst (o.map .int)), some (.int (top : Int)), some (.bl wide), some (.int (n : Int)), none, none, none, none, none, none]) (by simp [hol]) ?_
  rintro w rfl
  refine wp_mid (fun w => w = [some f, some (.lst (o.map .int)), some (.int (top : Int)), some (.bl wide), some (.int (n : Int)), some (.own (rowsD [])), none, none, none, none, none]) (by simp [rowsD]) ?_
  rintro w rfl
  refine wp_mid (fun w => ∃ f', ∃ core : List (List Int), Fd f' ∧ core.length ≤ 4 ∧ Fit n o top core ∧ w = [some f', some (.lst (o.map .int)), some (.int (top : Int)), some (.bl wide), some (.int (n : Int)), some (.own (rowsD core)), none, none, none, none, none]) ?_ ?_
  · by_cases c : 0 < (top : Int)
    · simp only [lz_If, lz_Bl, lz_2vg, slot_zero, slot_succ, ob_some, wp_C, dGt_int, blD_bl]
      refine brQ_of (fun _ => ?_) fun h => absurd c (of_decide_eq_false h)
      simp only [lz_Set, wp_Comp, lz_iW, wp_cons, lz_Cal, lz_Z, slot_zero, ob_some, wp_C, wp_nil, kQ_fd hf]
      refine ⟨rfl, WpR.mono (draw_ok hf (by decide) (by decide)) ?_⟩
      rintro d os ⟨v, f1, rfl, rfl, hv0, hv1, hf1⟩
      have rc : rngC v = true := rngC_of hv0 (by omega)
      simp [rc]
      refine lz_cmp (fun i acc w => ∃ f' x, ∃ core : List (List Int), Fd f' ∧ core.length = i ∧ Fit n o top core ∧ acc = rowsD core ∧ w = [some f', some (.lst (o.map .int)), some (.int (top : Int)), some (.bl wide), some (.int (n : Int)), some (.own (rowsD [])), none, none, none, none, x]) ⟨f1, none, [], hf1, rfl, (fun r m => by cases m), rfl, rfl⟩ ?_ ?_
      · rintro acc w ⟨f', x, core, hf', hl, hfit, rfl, rfl⟩
        rw [rngD_len] at hl
        simp
        exact ⟨f', hf', core, by omega, hfit, rfl, rfl⟩
      · rintro i d acc w hi ⟨f', x, core, hf', hl, hfit, rfl, rfl⟩
        obtain ⟨rfl, hi2⟩ := toNat_range i hi
        simp [hf']
        refine WpR.mono (draw_ok hf' (by omega) (by omega)) ?_
        rintro d os ⟨u, f3, rfl, rfl, hu0, hu1, hf3⟩
        simp [hf3]
        rw [show u = ((u.toNat : Nat) : Int) by omega]
        refine WpR.mono (lead_ok hf3 ho (by omega) (p := u.toNat) (by omega)) ?_
        rintro d os ⟨r, f4, rfl, rfl, hf4, hr, h0, h1⟩
        simp
        refine ⟨line' (by omega), f4, hf4, _, core ++ [r], by simp [hl], hfit.add hr (bel_at (p := u.toNat) (by omega) (by omega) h0 (h1 (by omega))), rowsD_one, rfl, rfl⟩
    · simp only [lz_If, lz_Bl, lz_2vg, slot_zero, slot_succ, ob_some, wp_C, dGt_int, blD_bl]
      refine brQ_of (fun h => absurd (of_decide_eq_true h) c) fun _ => ?_
      rw [wp_Nx]
      exact ⟨rfl, f, [], hf, by simp, (fun r m => by cases m), rfl⟩
  rintro w ⟨f1, core1, hf1, hl1, hfit1, rfl⟩
  refine wp_mid (fun w => ∃ f' x, ∃ core : List (List Int), Fd f' ∧ core.length ≤ 10 ∧ Fit n o top core ∧ w = [some f', some (.lst (o.map .int)), some (.int (top : Int)), some (.bl wide), some (.int (n : Int)), some (.own (rowsD core)), x, none, none, none, none]) ?_ ?_
  · simp only [wp_For, lz_iW, wp_cons, lz_Cal, lz_Z, slot_zero, slot_succ, ob_some, wp_C, wp_nil, kQ_fd hf1, lz_2vg, dAdd_int]
    refine ⟨rfl, WpR.mono (draw_ok hf1 (by omega) (by omega)) ?_⟩
    rintro d os ⟨v, f2, rfl, rfl, hv0, hv1, hf2⟩
    have rc : rngC v = true := rngC_of hv0 (by omega)
    simp [rc]
    refine lz_for (fun i w => ∃ f' x, ∃ core : List (List Int), Fd f' ∧ core.length ≤ 4 + i ∧ Fit n o top core ∧ w = [some f', some (.lst (o.map .int)), some (.int (top : Int)), some (.bl wide), some (.int (n : Int)), some (.own (rowsD core)), x, none, none, none, none]) ⟨f2, none, core1, hf2, hl1, hfit1, rfl⟩ ?_ ?_
    · rintro w ⟨f', x, core, hf', hl, hfit, rfl⟩
      rw [rngD_len] at hl
      simp
      exact ⟨f', hf', _, core, by omega, hfit, rfl, rfl, rfl⟩
    · rintro i d w hi ⟨f', x, core, hf', hl, hfit, rfl⟩
      obtain ⟨rfl, hi2⟩ := toNat_range i hi
      simp [hf']
      refine WpR.mono (link_ok hf' ho (by omega) (p := i) (by omega)) ?_
      rintro d os ⟨r, f4, rfl, rfl, hf4, hr, h0, h1, _⟩
      simp
      refine ⟨line' (by omega), f4, hf4, _, core ++ [r], by simp; omega, hfit.add hr (bel_at (p := i) (by omega) (by omega) h0 (h1 (by omega))), rfl, rowsD_one, rfl⟩
  rintro w ⟨f2, x6, core2, hf2, hl2, hfit2, rfl⟩
  refine wp_mid (fun w => ∃ f' x, ∃ core : List (List Int), Fd f' ∧ core.length ≤ 16 ∧ Fit n o top core ∧ Bars o top o.length core ∧ w = [some f', some (.lst (o.map .int)), some (.int (top : Int)), some (.bl wide), some (.int (n : Int)), some (.own (rowsD core)), x6, x, none, none, none]) ?_ ?_
  · have pd : pls ((o.map D.int).drop top) = true := by rw [← List.map_drop]; exact pls_ints
    simp [cutD_from, pd]
    refine lz_for (fun i w => ∃ f' x, ∃ core : List (List Int), Fd f' ∧ core.length ≤ 10 + i ∧ Fit n o top core ∧ Bars o top (top + i) core ∧ w = [some f', some (.lst (o.map .int)), some (.int (top : Int)), some (.bl wide), some (.int (n : Int)), some (.own (rowsD core)), x6, x, none, none, none]) ⟨f2, none, core2, hf2, hl2, hfit2, (fun j hj l1 l2 => absurd l1 (by omega)), rfl⟩ ?_ ?_
    · rintro w ⟨f', x, core, hf', hl, hfit, hb, rfl⟩
      rw [← List.map_drop, List.length_map, List.length_drop] at hl hb
      simp
      refine ⟨f', hf', _, core, by omega, hfit, ?_, rfl, rfl, rfl⟩
      rw [show top + (o.length - top) = o.length by omega] at hb
      exact hb
    · rintro i d w hi ⟨f', x, core, hf', hl, hfit, hb, rfl⟩
      rw [← List.map_drop] at hi
      obtain ⟨hi', rfl⟩ := ints_at hi
      rw [List.length_drop] at hi'
      have ei : (o.drop top)[i] = o[top + i] := List.getElem_drop ..
      rw [ei]
      simp [hf']
      refine WpR.mono (bar_ok hf' ho (by omega) (j := top + i) (by omega) (by omega)) ?_
      rintro d os ⟨r, f4, rfl, rfl, hf4, hr, h0, h1⟩
      simp
      refine ⟨line' (by omega), f4, hf4, _, core ++ [r], by simp; omega, hfit.add hr (bel_none h0), fun j hj l1 l2 => ?_, rfl, rowsD_one, rfl⟩
      by_cases c : j < top + i
      · obtain ⟨y, m, hy⟩ := hb j hj l1 c
        exact ⟨y, List.mem_append_left _ m, hy⟩
      · have ej : j = top + i := by omega
        subst ej
        exact ⟨r, List.mem_append_right _ List.mem_cons_self, h0, h1⟩
  rintro w ⟨f3, x7, core, hf3, hl3, hfit3, hb3, rfl⟩
  refine wp_mid (fun w => ∃ f', ∃ p : Nat, Fd f' ∧ p ≤ 200 ∧ w = [some f', some (.lst (o.map .int)), some (.int (top : Int)), some (.bl wide), some (.int (n : Int)), some (.own (rowsD core)), x6, x7, some (.int (p : Int)), none, none]) ?_ ?_
  · simp [hf3]
    refine WpR.mono (draw_ok hf3 (by decide) (by decide)) ?_
    rintro d os ⟨v, f', rfl, rfl, hv0, hv1, hf'⟩
    simp
    exact ⟨f', hf', (1 + v).toNat, by omega, rfl, by omega⟩
  rintro w ⟨f4, p0, hf4, hp0, rfl⟩
  refine wp_mid (fun w => ∃ f', ∃ p : Nat, Fd f' ∧ p ≤ 200 ∧ w = [some f', some (.lst (o.map .int)), some (.int (top : Int)), some (.bl wide), some (.int (n : Int)), some (.own (rowsD core)), x6, x7, some (.int (p : Int)), none, none]) ?_ ?_
  · cases wide with
    | false =>
      simp
      exact ⟨f4, hf4, p0, hp0, rfl, rfl⟩
    | true =>
      simp [hf4]
      refine WpR.mono (draw_ok hf4 (by decide) (by decide)) ?_
      rintro d os ⟨v, f', rfl, rfl, hv0, hv1, hf'⟩
      simp
      exact ⟨f', hf', (200 - core.length - v).toNat, by omega, rfl, by omega⟩
  rintro w ⟨f5, p, hf5, hp, rfl⟩
  have rcp : rngC (p : Int) = true := rngC_of (by omega) (by omega)
  refine wp_mid (fun w => ∃ f', ∃ ah : List (List Int), Fd f' ∧ ah.length = p ∧ Fit n o top ah ∧ w = [some f', some (.lst (o.map .int)), some (.int (top : Int)), some (.bl wide), some (.int (n : Int)), some (.own (rowsD core)), x6, x7, some (.int (p : Int)), some (.own (rowsD ah)), none]) ?_ ?_
  · simp [rcp]
    refine lz_cmp (fun i acc w => ∃ f' x, ∃ ah : List (List Int), Fd f' ∧ ah.length = i ∧ Fit n o top ah ∧ acc = rowsD ah ∧ w = [some f', some (.lst (o.map .int)), some (.int (top : Int)), some (.bl wide), some (.int (n : Int)), some (.own (rowsD core)), x6, x7, some (.int (p : Int)), none, x]) ⟨f5, none, [], hf5, rfl, (fun r m => by cases m), rfl, rfl⟩ ?_ ?_
    · rintro acc w ⟨f', x, ah, hf', hl, hfit, rfl, rfl⟩
      rw [rngD_len] at hl
      simp
      exact ⟨f', hf', ah, hl, hfit, rfl, rfl⟩
    · rintro i d acc w hi ⟨f', x, ah, hf', hl, hfit, rfl, rfl⟩
      obtain ⟨rfl, hi2⟩ := toNat_range (n := (p : Int)) i (by simpa using hi)
      simp [hf']
      refine WpR.mono (plain_ok hf' (by omega)) ?_
      rintro d os ⟨r, f6, rfl, rfl, hf6, hr, h0⟩
      simp
      exact ⟨line' (by omega), f6, hf6, _, ah ++ [r], by simp [hl], hfit.add hr (bel_plain h0 _), rowsD_one, rfl, rfl⟩
  rintro w ⟨f6, ah, hf6, hla, hfita, rfl⟩
  have W : World n o top (ah ++ core) := ⟨fun r m => (List.mem_append.mp m).elim (hfita r) (hfit3 r), fun j hj l1 l2 => by
    obtain ⟨r, m, hr⟩ := hb3 j hj l1 l2
    exact ⟨r, List.mem_append_right _ m, hr⟩⟩
  cases wide with
  | true =>
    simp [hf6]
    refine WpR.mono (shuffledD_ok hf6 (.inr rfl) pls_rowsD (by simp; omega)) ?_
    rintro d os ⟨q, f7, rfl, rfl, hq, hf7⟩
    obtain ⟨m, rfl, hm⟩ := perm_mapD row_inj hq
    have ll := hm.length_eq
    have lz : ah.length + m.length ≤ sizeLine := line (by omega)
    simp [lz]
    refine ⟨ah ++ m, f7, by unfold rowsD; simp, rfl, hf7, by simp; omega, W.perm fun r => ?_⟩
    rw [List.mem_append, List.mem_append, hm.mem_iff]
  | false =>
    have lz : ah.length + core.length ≤ sizeLine := line (by omega)
    simp [hf6, lz]
    rw [rowsD_app]
    refine WpR.mono (shuffledD_ok hf6 (.inl rfl) pls_rowsD (by simp; omega)) ?_
    rintro d os ⟨q, f7, rfl, rfl, hq, hf7⟩
    obtain ⟨m, rfl, hm⟩ := perm_mapD row_inj hq
    have ll := hm.length_eq
    rw [List.length_append] at ll
    simp
    exact ⟨m, f7, rfl, rfl, hf7, by omega, W.perm fun r => hm.mem_iff⟩
end K16

set_option autoImplicit false
namespace K16
open PySem PySem.Spec L2 Pm
theorem cmp_filt {α : Type} (g h : α → D) (xs : List α) (p : α → Bool) {c : PM Bool} {elt : PM D} {j : Nat} {w : Ev} {QL : List D → Ev → Prop} (hj : j < w.length) (hl : xs.length ≤ 100000) (hc : ∀ x ∈ xs, Wp (c (w.set j (some (g x)))) fun b w3 => b = p x ∧ w3 = w.set j (some (g x)))
    (he : ∀ x ∈ xs, p x = true → Wp (elt (w.set j (some (g x)))) fun d w3 => d = h x ∧ w3 = w.set j (some (g x))) (hq : ∀ (w2 : Ev), w2.set j none = w.set j none → w2.length = w.length → QL ((xs.filter p).map h) w2) : Wp (cmpL (.nm j) c elt [j] (xs.map g) [] w) QL := by
  refine lz_cmp (fun i acc w2 => w2.set j none = w.set j none ∧ w2.length = w.length ∧ acc = ((xs.take i).filter p).map h) ⟨rfl, rfl, rfl⟩ ?_ ?_
  · rintro acc w2 ⟨h1, h2, h3⟩
    rw [List.length_map, List.take_length] at h3
    rw [h3]; exact hq w2 h1 h2
  · rintro i d acc w2 hi ⟨h1, h2, h3⟩
    rw [List.getElem?_map] at hi
    obtain ⟨x, e1, e2⟩ := Option.map_eq_some_iff.mp hi
    obtain ⟨hil, e3⟩ := List.getElem?_eq_some_iff.mp e1
    have hx : x ∈ xs := List.mem_of_getElem? e1
    subst e2
    have ew : w2.set j (some (g x)) = w.set j (some (g x)) := by
      have := congrArg (fun z : Ev => z.set j (some (g x))) h1
      simpa using this
    simp [h2, hj]
    rw [ew]
    refine Wp.mono (hc x hx) ?_
    rintro b w3 ⟨rfl, rfl⟩
    refine brQ_of (fun hp => ?_) fun hp => ?_
    · refine Wp.mono (he x hx hp) ?_
      rintro d w4 ⟨rfl, rfl⟩
      refine ⟨Nat.lt_of_lt_of_le (by rw [h3, List.length_map]; have := List.length_filter_le p (xs.take i); rw [List.length_take] at this; omega) big, by simp, by simp, ?_⟩
      rw [h3, List.take_add_one, e1]; simp [hp]
    · refine ⟨by simp, by simp, ?_⟩
      rw [h3, List.take_add_one, e1]; simp [hp]
theorem filt_empty {α : Type} (p : α → Bool) : ∀ l : List α, (l.filter p).isEmpty = !(l.any p)
  | [] => rfl
  | a :: l => by
    by_cases h : p a = true
    · simp [h]
    · have ih := filt_empty p l
      rw [List.filter_cons, if_neg h, ih, List.any_cons]
      simp [h]
def IsSeq (d : D) (l : List D) : Prop := d = .tup l ∨ d = .lst l ∨ d = .own l
theorem inD_ints {s : List Int} {i : Int} : inD (.int i) (s.map .int) = s.contains i := by
  unfold inD
  induction s with
  | nil => rfl
  | cons a s ih =>
    rw [List.map_cons, List.any_cons, ih, List.contains_cons]
    show ((a == i) || _) = _
    have e : (a == i) = (i == a) := by
      by_cases h : a = i
      · simp [h]
      · have h2 : ¬ i = a := fun z => h z.symm
        simp [h, h2]
    rw [e]
theorem flat_ints {s : List Int} : (s.map D.int).all flatD = true := by
  rw [List.all_map]; simp [flatD, Function.comp_def]
theorem dIn_ints {d : D} {s : List Int} {i : Int} {neg : Bool} (h : IsSeq d (s.map .int)) : dIn neg (.int i) d = some (.bl (if neg = true then !s.contains i else s.contains i)) := by
  have hs : seqD d = some (s.map .int) := by rcases h with rfl | rfl | rfl <;> rfl
  unfold dIn
  rw [hs]
  dsimp only
  rw [if_pos ⟨rfl, flat_ints⟩, inD_ints]
/-! nothing at some rules -/
def nt (r s : List Int) : Bool := s.all fun i => decide (atR r i = 0)
theorem nt_drop {r s : List Int} {i : Nat} (hi : i < s.length) : nt r (s.drop i) = (decide (atR r s[i] = 0) && nt r (s.drop (i + 1))) := by
  rw [List.drop_eq_getElem_cons hi]; rfl
def InN (n : Nat) (s : List Int) : Prop := ∀ i ∈ s, 0 ≤ i ∧ i < (n : Int)
theorem is_nought_ok {n : Nat} {r s : List Int} (hr : r.length = n) (hs : InN n s) : WpR (m_is_nought [.tup (r.map .int), .tup (s.map .int)]) (BlQ (nt r s)) := by
  refine wpr_mk rfl ?_
  unfold b_is_nought startE
  simp
  refine lz_for (fun i w => ∃ x, w = [some (.tup (r.map .int)), some (.tup (s.map .int)), x] ∧ nt r (s.drop i) = nt r s) ⟨none, rfl, rfl⟩ ?_ ?_
  · rintro w ⟨x, rfl, hb⟩
    rw [List.length_map, List.drop_length] at hb
    simp
    exact ⟨by rw [← hb]; rfl, rfl⟩
  · rintro i d w hi ⟨x, rfl, hb⟩
    obtain ⟨hi', rfl⟩ := ints_at hi
    obtain ⟨h1, h2⟩ := hs _ (List.getElem_mem hi')
    rw [nt_drop hi'] at hb
    simp [seqIx_at h1 (by rw [hr]; exact h2)]
    by_cases c : atR r s[i] = 0
    · simp [c] at hb ⊢
      exact hb
    · simp [c] at hb ⊢
      exact ⟨by rw [← hb], rfl⟩
def LentQ (d0 : D) (b : D) : D → List D → Prop := fun d os => d = b ∧ os = [d0]
theorem law_nought_ok {n : Nat} {r s : List Int} {sd : D} (hd : IsSeq sd (s.map .int)) (hr : r.length = n) (hs : InN n s) : WpR (m_law_nought [.tup (r.map .int), sd]) (LentQ sd (.bl (nt r s))) := by
  have go : ∀ (w0 : Option D), Wp (forL (.nm 2) (sIf (tBl (x2gg dNe (x2pp dIx (qV 0) (qV 2)) (xC (.int 0)))) (sRet (xC (.bl false))) sNx) (s.map .int) [some (.tup (r.map .int)), w0, none])
      (fun fl w => (∃ x, w = [some (.tup (r.map .int)), w0, x]) ∧ (fl = .nx ∧ nt r s = true ∨ fl = .rt (.bl false) ∧ nt r s = false)) := fun w0 => by
    refine lz_for (fun i w => ∃ x, w = [some (.tup (r.map .int)), w0, x] ∧ nt r (s.drop i) = nt r s) ⟨none, rfl, rfl⟩ ?_ ?_
    · rintro w ⟨x, rfl, hb⟩
      rw [List.length_map, List.drop_length] at hb
      exact ⟨⟨x, rfl⟩, .inl ⟨rfl, by rw [← hb]; rfl⟩⟩
    · rintro i d w hi ⟨x, rfl, hb⟩
      obtain ⟨hi', rfl⟩ := ints_at hi
      obtain ⟨h1, h2⟩ := hs _ (List.getElem_mem hi')
      rw [nt_drop hi'] at hb
      simp [seqIx_at h1 (by rw [hr]; exact h2)]
      by_cases c : atR r s[i] = 0
      · simp [c] at hb ⊢
        exact hb
      · simp [c] at hb ⊢
        exact hb
  refine wpr_mk rfl ?_
  unfold b_law_nought startE
  rcases hd with rfl | rfl | rfl
  all_goals
    simp
    refine Wp.mono (go _) ?_
    rintro fl w ⟨⟨x, rfl⟩, ⟨rfl, e⟩ | ⟨rfl, e⟩⟩
    · simp [LentQ, e]
    · simp [LentQ, e]
/-! free rules -/
def freeP (rows : List (List Int)) (s : List Int) (i : Int) : Bool := !s.contains i && !((rows.filter (nt · s)).any fun r => decide (atR r i < 0))
def freeL (n : Nat) (rows : List (List Int)) (s : List Int) : List Int := (intsTo n).filter (freeP rows s)
def Rect (n : Nat) (rows : List (List Int)) : Prop := ∀ r ∈ rows, r.length = n
theorem free_rules_ok {n : Nat} {rows : List (List Int)} {s : List Int} (hn : n ≤ 1000) (hl : rows.length ≤ 1000) (hr : Rect n rows) (hs : InN n s) : WpR (m_free_rules [.int (n : Int), .tup (rowsD rows), .tup (s.map .int)]) (DQ (.tup ((freeL n rows s).map .int))) := by
  have rc : rngC (n : Int) = true := rngC_of (by omega) (by omega)
  refine wpr_mk rfl ?_
  unfold b_free_rules
  rw [show startE 7 [.int (n : Int), .tup (rowsD rows), .tup (s.map .int)] = [some (.int (n : Int)), some (.tup (rowsD rows)), some (.tup (s.map .int)), none, none, none, none] from rfl]
  refine wp_mid (fun w => w = [some (.int (n : Int)), some (.tup (rowsD rows)), some (.tup (s.map .int)), some (.own (rowsD (rows.filter (nt · s)))), none, none, none]) ?_ ?_
  · simp
    refine cmp_filt (fun r : List Int => D.tup (r.map .int)) (fun r => D.tup (r.map .int)) rows (nt · s) (by simp) (by omega) (fun r m => ?_) (fun r m _ => by simp) fun w2 e el => ?_
    · simp
      refine WpR.mono (is_nought_ok (hr r m) hs) ?_
      rintro d os ⟨rfl, rfl⟩
      simp
    · simp at e el
      simp [e, el, rowsD]
  rintro w rfl
  refine wp_mid (fun w => w = [some (.int (n : Int)), some (.tup (rowsD rows)), some (.tup (s.map .int)), some (.own (rowsD (rows.filter (nt · s)))), some (.own []), none, none]) (by simp) ?_
  rintro w rfl
  have hrt : ∀ r ∈ rows.filter (nt · s), r.length = n := fun r m => hr r (List.mem_filter.mp m).1
  have hlt : (rows.filter (nt · s)).length ≤ 1000 := Nat.le_trans (List.length_filter_le _ _) hl
  refine wp_mid (fun w => ∃ x5 x6, w = [some (.int (n : Int)), some (.tup (rowsD rows)), some (.tup (s.map .int)), some (.own (rowsD (rows.filter (nt · s)))), some (.own ((freeL n rows s).map .int)), x5, x6]) ?_ ?_
  · unfold freeL freeP
    generalize rows.filter (nt · s) = tied at hrt hlt
    simp [rc, rngD_ints]
    refine lz_for (fun i w => ∃ x5 x6, w = [some (.int (n : Int)), some (.tup (rowsD rows)), some (.tup (s.map .int)), some (.own (rowsD tied)), some (.own ((((intsTo n).take i).filter fun i => !s.contains i && !(tied.any fun r => decide (atR r i < 0))).map .int)), x5, x6]) ⟨none, none, rfl⟩ ?_ ?_
    · rintro w ⟨x5, x6, rfl⟩
      rw [List.length_map, List.take_length]
      simp
    · rintro i d w hi ⟨x5, x6, rfl⟩
      obtain ⟨hi', rfl⟩ := ints_at hi
      have hv := intsTo_mem.mp (List.getElem_mem hi')
      have ln : (intsTo n).length = n := intsTo_len n
      have ht : (intsTo n).take (i + 1) = (intsTo n).take i ++ [(intsTo n)[i]] := by rw [List.take_add_one, List.getElem?_eq_getElem hi']; rfl
      have lf : (((intsTo n).take i).filter fun i => !s.contains i && !(tied.any fun r => decide (atR r i < 0))).length < sizeLine := line' (by
        have := List.length_filter_le (fun i => !s.contains i && !(tied.any fun r => decide (atR r i < 0))) ((intsTo n).take i)
        rw [List.length_take] at this; omega)
      rw [ht, List.filter_append, List.map_append]
      generalize (((intsTo n).take i).filter fun i => !s.contains i && !(tied.any fun r => decide (atR r i < 0))) = acc at lf
      generalize (intsTo n)[i] = v at hv
      simp [dIn_ints (neg := true) (i := v) (s := s) (.inl rfl)]
      refine brQ_of (fun c1 => ?_) fun c1 => ?_
      · refine cmp_filt (fun r : List Int => D.tup (r.map .int)) (fun r => D.tup (r.map .int)) tied (fun r => decide (atR r v < 0)) (by simp) (by omega) (fun r m => by simp [seqIx_at hv.1 (show v < (r.length : Int) by rw [hrt r m]; exact hv.2)]) (fun r m _ => by simp) fun w2 e el => ?_
        simp at e el
        have ee : (tied.filter fun r => decide (atR r v < 0)).isEmpty = !(tied.any fun r => decide (atR r v < 0)) := filt_empty _ _
        cases ea : (tied.any fun r => decide (atR r v < 0)) with
        | true =>
          rw [ea] at ee
          simp [e, ee]
          simp at c1
          obtain ⟨x, m, hx⟩ := List.any_eq_true.mp ea
          simp [c1]
          exact ⟨x, m, of_decide_eq_true hx⟩
        | false =>
          rw [ea] at ee
          simp [e, ee, lf]
          simp at c1
          simp [ea, c1]
      · simp at c1
        simp [c1]
  rintro w ⟨x5, x6, rfl⟩
  simp [DQ]
end K16

set_option autoImplicit false
namespace K16
open PySem PySem.Spec L2 Pm
theorem seqIx_bl {bs : List Bool} {i : Nat} {b : Bool} (h : bs[i]? = some b) : seqIx (bs.map D.bl) (i : Int) = some (.bl b) := seqIx_nat (by rw [List.getElem?_map, h]; rfl) rfl
theorem pls_bls {bs : List Bool} : pls (bs.map D.bl) = true := pls_map (fun _ => rfl) bs
def bar1 (s r : List Int) (i : Nat) : Bool := nt r s && decide (atR r (i : Int) < 0)
theorem law_free_ok {n : Nat} {rows : List (List Int)} {s : List Int} {sd : D} (hd : IsSeq sd (s.map .int)) (hn : n ≤ 1000) (hr : Rect n rows) (hs : InN n s) : WpR (m_law_free [.int (n : Int), .tup (rowsD rows), sd]) (LentQ sd (.own ((freeL n rows s).map .int))) := by
  have rc : rngC (n : Int) = true := rngC_of (by omega) (by omega)
  refine wpr_mk rfl ?_
  unfold b_law_free
  rw [show startE 6 [.int (n : Int), .tup (rowsD rows), sd] = [some (.int (n : Int)), some (.tup (rowsD rows)), some sd, none, none, none] from rfl]
  refine wp_mid (fun w => w = [some (.int (n : Int)), some (.tup (rowsD rows)), some sd, some (.own ((List.replicate n false).map D.bl)), none, none]) ?_ ?_
  · simp [rc]
    refine cmp_const (by simp) (by rw [rngD_len]; omega) fun w2 e => ?_
    simp at e
    have el : w2.length = 6 := by
      have := congrArg List.length e
      simpa using this
    simp [e, el]
    rw [List.map_const', rngD_len]
  rintro w rfl
  refine wp_mid (fun w => ∃ x4 x5, ∃ bs : List Bool, w = [some (.int (n : Int)), some (.tup (rowsD rows)), some sd, some (.own (bs.map D.bl)), x4, x5] ∧ bs.length = n ∧ ∀ i, i < n → bs[i]? = some (rows.any fun r => bar1 s r i)) ?_ ?_
  · simp
    refine lz_for (fun k w => ∃ x4 x5, ∃ bs : List Bool, w = [some (.int (n : Int)), some (.tup (rowsD rows)), some sd, some (.own (bs.map D.bl)), x4, x5] ∧ bs.length = n ∧ ∀ i, i < n → bs[i]? = some ((rows.take k).any fun r => bar1 s r i)) ⟨none, none, List.replicate n false, by rw [List.map_replicate], by simp, fun i hi => by rw [List.getElem?_replicate, if_pos hi]; rfl⟩ ?_ ?_
    · rintro w ⟨x4, x5, bs, rfl, hl, hb⟩
      rw [rowsD_len, List.take_length] at hb
      simp
      exact ⟨_, _, bs, ⟨rfl, rfl, rfl⟩, hl, hb⟩
    · rintro k d w hk ⟨x4, x5, bs, rfl, hl, hb⟩
      obtain ⟨hk', rfl⟩ := rowsD_at hk
      have hrl := hr _ (List.getElem_mem hk')
      have tk : (rows.take (k + 1)) = rows.take k ++ [rows[k]] := by rw [List.take_add_one, List.getElem?_eq_getElem hk']; rfl
      rw [tk]
      generalize rows[k] = r at hrl
      generalize rows.take k = rk at hb
      have fin : ∀ (QS : Fl → Ev → Prop) (w' : Ev), (w' = [some (.int (n : Int)), some (.tup (rowsD rows)), some sd, some (.own (bs.map D.bl)), some (.tup (r.map .int)), x5]) → brQ (nt r s) (Wp (sFor [none] (iW qR1 (xCons (xP (qV 0)) xNil)) (.nm 5) (sIf (tBl (x2gg dLt (x2pp dIx (qV 4) (qV 5)) (xC (.int 0)))) (sSetI 3 (xC (.bl true)) (xP (qV 5))) sNx) w') (loopQ (fun w => ∃ x4 x5, ∃ bs : List Bool, w = [some (.int (n : Int)), some (.tup (rowsD rows)), some sd, some (.own (bs.map D.bl)), x4, x5] ∧ bs.length = n ∧ ∀ i, i < n → bs[i]? = some ((rk ++ [r]).any fun r => bar1 s r i)) QS))
          (∃ x4 x5, ∃ bs : List Bool, w' = [some (.int (n : Int)), some (.tup (rowsD rows)), some sd, some (.own (bs.map D.bl)), x4, x5] ∧ bs.length = n ∧ ∀ i, i < n → bs[i]? = some ((rk ++ [r]).any fun r => bar1 s r i)) := fun QS w' ew => by
        subst ew
        refine brQ_of (fun h => ?_) fun h => ?_
        · simp [rc]
          refine lz_for (fun j w => ∃ x5, ∃ b2 : List Bool, w = [some (.int (n : Int)), some (.tup (rowsD rows)), some sd, some (.own (b2.map D.bl)), some (.tup (r.map .int)), x5] ∧ b2.length = n ∧ ∀ i, i < n → b2[i]? = some ((rk.any fun r => bar1 s r i) || (decide (i < j) && bar1 s r i))) ⟨x5, bs, rfl, hl, fun i hi => by rw [hb i hi]; simp⟩ ?_ ?_
          · rintro w ⟨y5, b2, rfl, hl2, hb2⟩
            rw [rngD_len] at hb2
            simp
            refine ⟨_, _, b2, ⟨rfl, rfl, rfl⟩, hl2, fun i hi => ?_⟩
            rw [hb2 i hi]; simp [hi, List.any_append]
          · rintro j d w hj ⟨y5, b2, rfl, hl2, hb2⟩
            obtain ⟨rfl, hj2⟩ := toNat_range (n := (n : Int)) j (by simpa using hj)
            have hjn : j < n := by omega
            simp [seqIx_at (r := r) (i := (j : Int)) (by omega) (by omega)]
            by_cases c : atR r (j : Int) < 0
            · have ix : ixN b2.length (j : Int) = some j := by
                have := ixN_at (n := b2.length) (i := (j : Int)) (by omega) (by omega)
                simpa using this
              simp [c, ix]
              refine ⟨_, b2.set j true, ⟨by rw [List.map_set], rfl⟩, by simp [hl2], fun i hi => ?_⟩
              rw [List.getElem?_set]
              by_cases eij : j = i
              · subst eij
                rw [if_pos rfl, if_pos (by omega)]
                have : bar1 s r j = true := by unfold bar1; rw [h]; simp [c]
                simp [this]
              · rw [if_neg eij, hb2 i hi]
                by_cases l : i < j
                · simp [l, show i < j + 1 by omega]
                · simp [l, show ¬ i < j + 1 by omega]
            · simp [c]
              refine ⟨_, b2, ⟨rfl, rfl⟩, hl2, fun i hi => ?_⟩
              rw [hb2 i hi]
              by_cases eij : i = j
              · subst eij
                have : bar1 s r i = false := by unfold bar1; simp [c]
                simp [this]
              · by_cases l : i < j
                · simp [l, show i < j + 1 by omega]
                · simp [l, show ¬ i < j + 1 by omega]
        · refine ⟨_, _, bs, rfl, hl, fun i hi => ?_⟩
          rw [hb i hi]
          have : bar1 s r i = false := by unfold bar1; rw [h]; rfl
          simp [List.any_append, this]
      simp only [lz_nm, List.length_cons, List.length_nil, List.set_cons_succ, List.set_cons_zero]
      refine ⟨by decide, ?_⟩
      simp only [lz_If, lz_Tru, lz_Cal, wp_cons, lz_I, lz_Z, slot_succ, slot_zero, ob_some, iceQ_tup, pls_ints, true_and, wp_nil]
      unfold kQ
      by_cases pc : pl sd = true
      · rw [if_pos pc]
        refine ⟨rfl, WpR.mono (law_nought_ok hd hrl hs) ?_⟩
        rintro d os ⟨rfl, rfl⟩
        simp only [putB_some, putB_nil, truD_bl, ob_some, wp_Nx, loopQ_nx, List.set_cons_succ, List.set_cons_zero]
        exact fin _ _ rfl
      · rw [if_neg pc]
        refine ⟨rfl, WpR.mono (law_nought_ok hd hrl hs) ?_⟩
        rintro d os ⟨rfl, rfl⟩
        simp only [putB_some, putB_nil, truD_bl, ob_some, wp_Nx, loopQ_nx, List.set_cons_succ, List.set_cons_zero]
        exact fin _ _ rfl
  rintro w ⟨x4, x5, bs, rfl, hl, hb⟩
  simp only [wp_Ret, wp_Comp, lz_iW, wp_cons, lz_P, qV_eq, slot_zero, ob_some, pl_int, true_and, wp_nil, lz_qR1, rc, Int.toNat_natCast, rngD_ints]
  refine cmp_filt D.int D.int (intsTo n) (freeP rows s) (by simp) (by rw [intsTo_len]; omega) (fun i m => ?_) (fun i m _ => by simp) fun w2 e el => ?_
  · obtain ⟨i0, i1⟩ := intsTo_mem.mp m
    have ei : ((i.toNat : Nat) : Int) = i := by omega
    have gx : seqIx (bs.map D.bl) i = some (.bl (rows.any fun r => bar1 s r i.toNat)) := by
      have := seqIx_bl (hb i.toNat (by omega))
      rw [ei] at this; exact this
    simp [gx, dIn_ints (neg := true) (i := i) hd]
    have ef : freeP rows s i = (!(rows.any fun r => bar1 s r i.toNat) && !s.contains i) := by
      unfold freeP bar1
      rw [List.any_filter, ei, Bool.and_comm]
    rw [ef]
    cases (rows.any fun r => bar1 s r i.toNat) <;> simp
  · simp at e el
    simp [e, el, LentQ, freeL]
/-! strata -/
theorem nt_perm {r s t : List Int} (h : s.Perm t) : nt r s = nt r t := by
  unfold nt
  rw [Bool.eq_iff_iff, List.all_eq_true, List.all_eq_true]
  exact ⟨fun a x m => a x (h.mem_iff.mpr m), fun a x m => a x (h.mem_iff.mp m)⟩
theorem freeL_perm {n : Nat} {rows : List (List Int)} {s t : List Int} (h : s.Perm t) : freeL n rows s = freeL n rows t := by
  unfold freeL
  congr 1
  funext i
  unfold freeP
  have e1 : s.contains i = t.contains i := by
    rw [Bool.eq_iff_iff, List.contains_iff_mem, List.contains_iff_mem]; exact h.mem_iff
  have e2 : (nt · s) = (nt · t) := by funext r; exact nt_perm h
  rw [e1, e2]
def strataF (n : Nat) (rows : List (List Int)) : Nat → List Int → List (List Int)
  | 0, _ => []
  | k + 1, s => if freeL n rows s = [] then [] else freeL n rows s :: strataF n rows k (s ++ freeL n rows s)
theorem strataF_nil {n : Nat} {rows : List (List Int)} {k : Nat} {s : List Int} (h : freeL n rows s = []) : strataF n rows k s = [] := by
  cases k with
  | zero => rfl
  | succ k => show (if freeL n rows s = [] then [] else _) = _; rw [if_pos h]
theorem strataF_cons {n : Nat} {rows : List (List Int)} {k : Nat} {s : List Int} (h : freeL n rows s ≠ []) : strataF n rows (k + 1) s = freeL n rows s :: strataF n rows k (s ++ freeL n rows s) := by
  show (if freeL n rows s = [] then [] else _) = _; rw [if_neg h]
theorem free_mem {n : Nat} {rows : List (List Int)} {s : List Int} {i : Int} (h : i ∈ freeL n rows s) : (0 ≤ i ∧ i < (n : Int)) ∧ i ∉ s := by
  obtain ⟨h1, h2⟩ := List.mem_filter.mp h
  refine ⟨intsTo_mem.mp h1, fun m => ?_⟩
  unfold freeP at h2
  rw [show s.contains i = true from List.contains_iff_mem.mpr m] at h2
  simp at h2
theorem free_len {n : Nat} {rows : List (List Int)} {s : List Int} : (freeL n rows s).length ≤ n := by
  have := List.length_filter_le (freeP rows s) (intsTo n)
  rw [intsTo_len] at this; exact this
theorem InN.app {n : Nat} {rows : List (List Int)} {s : List Int} (h : InN n s) : InN n (s ++ freeL n rows s) := fun i m => by
  rcases List.mem_append.mp m with m | m
  · exact h i m
  · exact (free_mem m).1
def leftN (n : Nat) (s : List Int) : Nat := ((intsTo n).filter fun i => !s.contains i).length
theorem left_lt {n : Nat} {rows : List (List Int)} {s : List Int} (h : freeL n rows s ≠ []) : leftN n (s ++ freeL n rows s) < leftN n s := by
  obtain ⟨i, hi⟩ := List.exists_mem_of_ne_nil _ h
  obtain ⟨h1, h2⟩ := free_mem hi
  unfold leftN
  have e : ((intsTo n).filter fun i => !(s ++ freeL n rows s).contains i) = ((intsTo n).filter fun i => !s.contains i).filter fun i => !(freeL n rows s).contains i := by
    rw [List.filter_filter]
    congr 1
    funext j
    rw [Bool.eq_iff_iff]
    simp
    exact And.comm
  rw [e]
  refine List.length_filter_lt_length_iff_exists.mpr ⟨i, List.mem_filter.mpr ⟨intsTo_mem.mpr h1, by simp [h2]⟩, by simp [hi]⟩
end K16

set_option autoImplicit false
namespace K16
open PySem PySem.Spec L2 Pm
def G (n : Nat) (rows : List (List Int)) : List (List Int) := strataF n rows n []
theorem law_strata_ok {n : Nat} {rows : List (List Int)} (hn : n ≤ 100) (hr : Rect n rows) : WpR (m_law_strata [.int (n : Int), .tup (rowsD rows)]) (DQ (.tup (rowsD (G n rows)))) := by
  have rc : rngC (n : Int) = true := rngC_of (by omega) (by omega)
  refine wpr_mk rfl ?_
  unfold b_law_strata
  rw [show startE 6 [.int (n : Int), .tup (rowsD rows)] = [some (.int (n : Int)), some (.tup (rowsD rows)), none, none, none, none] from rfl]
  refine wp_mid (fun w => w = [some (.int (n : Int)), some (.tup (rowsD rows)), some (.own (rowsD [])), none, none, none]) (by simp [rowsD]) ?_
  rintro w rfl
  refine wp_mid (fun w => w = [some (.int (n : Int)), some (.tup (rowsD rows)), some (.own (rowsD [])), some (.own (([] : List Int).map .int)), none, none]) (by simp) ?_
  rintro w rfl
  refine wp_mid (fun w => ∃ x3 x4 x5, w = [some (.int (n : Int)), some (.tup (rowsD rows)), some (.own (rowsD (G n rows))), x3, x4, x5]) ?_ ?_
  · simp only [wp_For, lz_iW, wp_cons, lz_P, qV_eq, slot_zero, ob_some, pl_int, true_and, wp_nil, lz_qR1, rc, Int.toNat_natCast, putB_nil2]
    refine lz_for (fun i w => ∃ x4 x5, ∃ (S : List (List Int)) (A : List Int), w = [some (.int (n : Int)), some (.tup (rowsD rows)), some (.own (rowsD S)), some (.own (A.map .int)), x4, x5] ∧ S ++ strataF n rows (n - i) A = G n rows ∧ InN n A ∧ A.length ≤ i * n ∧ S.length ≤ i) ⟨none, none, [], [], rfl, rfl, (fun i m => by cases m), by simp, by simp⟩ ?_ ?_
    · rintro w ⟨x4, x5, S, A, rfl, hS, hA, hl, hl2⟩
      rw [rngD_len, Nat.sub_self] at hS
      have e : S = G n rows := by rw [← hS]; show S = S ++ []; rw [List.append_nil]
      rw [e]
      exact ⟨rfl, _, _, _, rfl⟩
    · rintro i d w hi ⟨x4, x5, S, A, rfl, hS, hA, hl, hl2⟩
      obtain ⟨rfl, hi2⟩ := toNat_range (n := (n : Int)) i (by simpa using hi)
      have hin : i < n := by omega
      simp
      refine WpR.mono (law_free_ok (.inr (.inr rfl)) (by omega) hr hA) ?_
      rintro d os ⟨rfl, rfl⟩
      simp
      have fl := free_len (n := n) (rows := rows) (s := A)
      by_cases c : freeL n rows A = []
      · simp [c]
        rw [strataF_nil c, List.append_nil] at hS
        rw [hS]
      · have cl : ¬ (freeL n rows A).length = 0 := fun z => c (List.length_eq_zero_iff.mp z)
        have b1 : i * n ≤ 10000 := Nat.le_trans (Nat.mul_le_mul (show i ≤ 100 by omega) hn) (by decide)
        have l1 : S.length < sizeLine := line' (by omega)
        have l2 : A.length + (freeL n rows A).length ≤ sizeLine := line (by omega)
        simp [c, l1, l2]
        rw [show n - i = (n - (i + 1)) + 1 by omega, strataF_cons c] at hS
        refine ⟨_, _, S ++ [freeL n rows A], A ++ freeL n rows A, ⟨rowsD_one, by rw [List.map_append], rfl, rfl⟩, ?_, hA.app, ?_, by simp; omega⟩
        · rw [List.append_assoc]; exact hS
        · rw [List.length_append, Nat.succ_mul]; omega
  rintro w ⟨x3, x4, x5, rfl⟩
  simp [DQ]
theorem strata_of_ok {n : Nat} {rows : List (List Int)} (hn : n ≤ 100) (hl : rows.length ≤ 1000) (hr : Rect n rows) : WpR (m_strata_of [.int (n : Int), .tup (rowsD rows)]) (DQ (.tup (rowsD (G n rows)))) := by
  refine wpr_mk rfl ?_
  unfold b_strata_of
  rw [show startE 5 [.int (n : Int), .tup (rowsD rows)] = [some (.int (n : Int)), some (.tup (rowsD rows)), none, none, none] from rfl]
  refine wp_mid (fun w => w = [some (.int (n : Int)), some (.tup (rowsD rows)), some (.tup (([] : List Int).map .int)), none, none]) (by simp) ?_
  rintro w rfl
  refine wp_mid (fun w => w = [some (.int (n : Int)), some (.tup (rowsD rows)), some (.tup (([] : List Int).map .int)), some (.own (rowsD [])), none]) (by simp [rowsD]) ?_
  rintro w rfl
  have n0 : InN n [] := fun i m => by cases m
  refine wp_mid (fun w => w = [some (.int (n : Int)), some (.tup (rowsD rows)), some (.tup (([] : List Int).map .int)), some (.own (rowsD [])), some (.tup ((freeL n rows []).map .int))]) ?_ ?_
  · simp only [lz_Set, lz_Cal, wp_cons, lz_I, slot_succ, slot_zero, ob_some, iceQ_int, iceQ_tup, pls_rowsD, pls_ints, true_and, wp_nil]
    refine ⟨rfl, WpR.mono (free_rules_ok (by omega) hl hr n0) ?_⟩
    rintro d os ⟨rfl, rfl⟩
    simp
  rintro w rfl
  refine wp_mid (fun w => ∃ x2 x4, w = [some (.int (n : Int)), some (.tup (rowsD rows)), x2, some (.own (rowsD (G n rows))), x4]) ?_ ?_
  · refine lz_while (fun k w => ∃ (s sp : List Int) (T : List (List Int)), w = [some (.int (n : Int)), some (.tup (rowsD rows)), some (.tup (sp.map .int)), some (.own (rowsD T)), some (.tup ((freeL n rows s).map .int))] ∧ sp.Perm s ∧ InN n s ∧ leftN n s ≤ k ∧ T ++ strataF n rows k s = G n rows ∧ T.length + k = n ∧ s.length ≤ T.length * n) (n := n) ⟨[], [], [], rfl, List.Perm.refl _, n0, ?_, rfl, by simp, by simp⟩ ?_
    · have := List.length_filter_le (fun i => !([] : List Int).contains i) (intsTo n)
      rw [intsTo_len] at this; exact this
    · rintro k w ⟨s, sp, T, rfl, hp, hs, hk, hT, hlen, hsl⟩
      simp
      have fl := free_len (n := n) (rows := rows) (s := s)
      by_cases c : freeL n rows s = []
      · simp [c]
        rw [strataF_nil c, List.append_nil] at hT
        rw [hT]
      · have lt := left_lt c
        obtain ⟨k', rfl⟩ : ∃ k', k = k' + 1 := ⟨k - 1, by omega⟩
        have b1 : T.length * n ≤ 10000 := Nat.le_trans (Nat.mul_le_mul (show T.length ≤ 100 by omega) hn) (by decide)
        have hspl := hp.length_eq
        have l1 : T.length < sizeLine := line' (by omega)
        have l2 : sp.length + (freeL n rows s).length ≤ sizeLine := line (by omega)
        have pp : (sortI (sp ++ freeL n rows s)).Perm (s ++ freeL n rows s) := (sortI_perm _).trans (hp.append_right _)
        have cm : D.tup (List.map D.int sp ++ List.map D.int (freeL n rows s)) = D.tup ((sp ++ freeL n rows s).map D.int) := by rw [List.map_append]
        have hn2 : InN n (sortI (sp ++ freeL n rows s)) := fun i m => hs.app i (pp.mem_iff.mp m)
        simp only [List.isEmpty_map, show (freeL n rows s).isEmpty = false by simp [c], Bool.not_false, brQ_t, wp_Seq, wp_Expr, lz_App, lz_I, slot_succ, slot_zero, ob_some, ownD_own, iceQ_tup, pls_ints, true_and, seqQ_nx, lz_Set, lz_1g, lz_2pp, qV_eq, List.set_cons_succ, List.set_cons_zero, dAdd_tup, rowsD_len, List.length_map, l2, ob_ite, cm, dSorted_tup, dTuple_own, lz_Cal, wp_cons, iceQ_int, pls_rowsD, wp_nil]
        refine ⟨l1, WpR.mono (free_rules_ok (by omega) hl hr hn2) ?_⟩
        rintro d os ⟨rfl, rfl⟩
        rw [freeL_perm pp]
        rw [strataF_cons c] at hT
        simp
        refine ⟨k', by omega, s ++ freeL n rows s, sortI (sp ++ freeL n rows s), T ++ [freeL n rows s], ⟨rfl, rowsD_one, rfl⟩, pp, hs.app, by omega, ?_, by simp; omega, ?_⟩
        · rw [List.append_assoc]; exact hT
        · rw [List.length_append, List.length_append, List.length_singleton, Nat.succ_mul]; omega
  rintro w ⟨x2, x4, rfl⟩
  simp [DQ]
def reachL (n : Nat) (rows : List (List Int)) : List Int := sortI (G n rows).flatten
theorem strataF_in {n : Nat} {rows : List (List Int)} : ∀ {k : Nat} {s : List Int}, (strataF n rows k s).length ≤ k ∧ ∀ m ∈ strataF n rows k s, m.length ≤ n
  | 0, s => ⟨Nat.le_refl _, fun m h => by cases h⟩
  | k + 1, s => by
    by_cases c : freeL n rows s = []
    · rw [strataF_nil c]; exact ⟨Nat.zero_le _, fun m h => by cases h⟩
    · rw [strataF_cons c]
      have ih := strataF_in (n := n) (rows := rows) (k := k) (s := s ++ freeL n rows s)
      refine ⟨by rw [List.length_cons]; omega, fun m h => ?_⟩
      rcases List.mem_cons.mp h with rfl | h
      · exact free_len
      · exact ih.2 m h
theorem reach_of_ok {n : Nat} {rows : List (List Int)} (hn : n ≤ 100) (hl : rows.length ≤ 1000) (hr : Rect n rows) : WpR (m_reach_of [.int (n : Int), .tup (rowsD rows)]) (DQ (.tup ((reachL n rows).map .int))) := by
  refine wpr_mk rfl ?_
  unfold b_reach_of
  rw [show startE 4 [.int (n : Int), .tup (rowsD rows)] = [some (.int (n : Int)), some (.tup (rowsD rows)), none, none] from rfl]
  have hb := strataF_in (n := n) (rows := rows) (k := n) (s := [])
  simp only [wp_Ret, lz_1g, lz_Comp2, lz_iW, wp_cons, lz_Cal, lz_I, slot_succ, slot_zero, ob_some, iceQ_int, iceQ_tup, pls_rowsD, true_and, wp_nil]
  refine ⟨rfl, WpR.mono (strata_of_ok hn hl hr) ?_⟩
  rintro d os ⟨rfl, rfl⟩
  simp only [putB_nil2, lz_qG, seqP_tup, ob_ite, pls_rowsD, true_and]
  unfold reachL
  unfold G
  generalize strataF n rows n [] = S at hb
  refine lz_cmp2 (fun i acc w => ∃ x2 x3, ∃ F : List Int, w = [some (.int (n : Int)), some (.tup (rowsD rows)), x2, x3] ∧ acc = F.map .int ∧ F = (S.take i).flatten ∧ F.length ≤ i * n) ⟨none, none, [], rfl, rfl, rfl, by simp⟩ ?_ ?_
  · rintro acc w ⟨x2, x3, F, rfl, rfl, hF, _⟩
    rw [rowsD_len, List.take_length] at hF
    rw [← hF]
    simp [DQ]
  · rintro i d acc w hi ⟨x2, x3, F, rfl, rfl, hF, hal⟩
    obtain ⟨hi', rfl⟩ := rowsD_at hi
    have tk : (S.take (i + 1)) = S.take i ++ [S[i]] := by rw [List.take_add_one, List.getElem?_eq_getElem hi']; rfl
    have hm := hb.2 _ (List.getElem_mem hi')
    have b1 : i * n ≤ 10000 := Nat.le_trans (Nat.mul_le_mul (show i ≤ 100 by omega) hn) (by decide)
    rw [tk]
    generalize S[i] = m at hm
    generalize S.take i = T at hF
    have hF2 : F ++ m = (T ++ [m]).flatten := by rw [hF]; simp
    rw [← hF2]
    simp
    refine lz_cmpA (fun j acc w => ∃ x3, w = [some (.int (n : Int)), some (.tup (rowsD rows)), some (.tup (m.map .int)), x3] ∧ acc = (F ++ m.take j).map .int) ⟨none, rfl, by simp⟩ ?_ ?_
    · rintro acc w ⟨x3, rfl, rfl⟩
      rw [List.length_map, List.take_length]
      simp only [putB_some, putB_nil, wipeE_cons, wipeE_nil, List.set_cons_succ, List.set_cons_zero]
      have e1 : (F ++ m).length ≤ (i + 1) * n := by rw [List.length_append, Nat.succ_mul]; omega
      exact ⟨⟨_, _, rfl⟩, F ++ m, rfl, rfl, e1⟩
    · rintro j d acc w hj ⟨x3, rfl, rfl⟩
      obtain ⟨hj', rfl⟩ := ints_at hj
      simp
      refine ⟨line' (by omega), ?_⟩
      rw [List.take_add_one, List.getElem?_map, List.getElem?_eq_getElem hj']; rfl
theorem rest_of_ok {n : Nat} {rows : List (List Int)} (hn : n ≤ 100) (hl : rows.length ≤ 1000) (hr : Rect n rows) : WpR (m_rest_of [.int (n : Int), .tup (rowsD rows)]) (DQ (.tup (((intsTo n).filter fun i => !(reachL n rows).contains i).map .int))) := by
  have rc : rngC (n : Int) = true := rngC_of (by omega) (by omega)
  refine wpr_mk rfl ?_
  unfold b_rest_of
  rw [show startE 4 [.int (n : Int), .tup (rowsD rows)] = [some (.int (n : Int)), some (.tup (rowsD rows)), none, none] from rfl]
  refine wp_mid (fun w => w = [some (.int (n : Int)), some (.tup (rowsD rows)), some (.tup ((reachL n rows).map .int)), none]) ?_ ?_
  · simp
    refine WpR.mono (reach_of_ok hn hl hr) ?_
    rintro d os ⟨rfl, rfl⟩
    simp
  rintro w rfl
  simp only [wp_Ret, lz_1g, wp_Comp, lz_iW, wp_cons, lz_P, qV_eq, slot_zero, ob_some, pl_int, true_and, wp_nil, lz_qR1, rc, Int.toNat_natCast, rngD_ints]
  refine cmp_filt D.int D.int (intsTo n) (fun i => !(reachL n rows).contains i) (by simp) (by rw [intsTo_len]; omega) (fun i m => ?_) (fun i m _ => by simp) fun w2 e el => ?_
  · simp [dIn_ints (neg := true) (i := i) (s := reachL n rows) (.inl rfl)]
  · simp at e el
    simp [e, el, DQ]
/-! told and due -/
theorem same_ok {l : List Int} {dd : D} (hd : IsSeq dd (l.map .int)) (h : l.length ≤ 1000) : WpR (m_law_same [.tup (l.map .int), dd]) (BlQ true) := by
  have e1 : dLen dd = some (.int l.length) := by rcases hd with rfl | rfl | rfl <;> simp
  have e2 : ∀ i : Int, dIx dd (.int i) = seqIx (l.map D.int) i := fun i => by rcases hd with rfl | rfl | rfl <;> simp
  have rc : rngC (l.length : Int) = true := rngC_of (by omega) (by omega)
  refine wpr_mk rfl ?_
  unfold b_law_same startE
  simp [e1, rc]
  refine lz_for (fun i w => ∃ x y, w = [some (.tup (l.map .int)), some dd, x, y]) ⟨none, none, rfl⟩ ?_ ?_
  · rintro w ⟨x, y, rfl⟩
    simp [BlQ]
  · rintro i d w hi ⟨x, y, rfl⟩
    obtain ⟨rfl, hi2⟩ := toNat_range (n := (l.length : Int)) i (by simpa using hi)
    have hk : i < l.length := by omega
    have g : seqIx (l.map D.int) (i : Int) = some (.int l[i]) := seqIx_ints (List.getElem?_eq_getElem hk)
    simp [g, e2]
theorem same_sets_ok {S : List (List Int)} {dd : D} (hd : IsSeq dd (rowsD S)) (h : S.length ≤ 1000) (h2 : ∀ m ∈ S, m.length ≤ 1000) : WpR (m_law_same_sets [.tup (rowsD S), dd]) (BlQ true) := by
  have e1 : dLen dd = some (.int S.length) := by rcases hd with rfl | rfl | rfl <;> simp
  have e2 : ∀ i : Int, dIx dd (.int i) = seqIx (rowsD S) i := fun i => by rcases hd with rfl | rfl | rfl <;> simp
  have rc : rngC (S.length : Int) = true := rngC_of (by omega) (by omega)
  refine wpr_mk rfl ?_
  unfold b_law_same_sets startE
  simp [e1, rc]
  refine lz_for (fun i w => ∃ x, w = [some (.tup (rowsD S)), some dd, x]) ⟨none, rfl⟩ ?_ ?_
  · rintro w ⟨x, rfl⟩
    simp [BlQ]
  · rintro i d w hi ⟨x, rfl⟩
    obtain ⟨rfl, hi2⟩ := toNat_range (n := (S.length : Int)) i (by simpa using hi)
    have hk : i < S.length := by omega
    simp [rowsD_ix hk, e2]
    refine WpR.mono (same_ok (.inl rfl) (h2 _ (List.getElem_mem hk))) ?_
    rintro d os ⟨rfl, rfl⟩
    simp
end K16

set_option autoImplicit false
namespace K16
open PySem PySem.Spec L2 Pm
/-! what the strata hold -/
theorem freeL_nd {n : Nat} {rows : List (List Int)} {s : List Int} : (freeL n rows s).Nodup := (intsTo_nd n).filter _
theorem strata_nd {n : Nat} {rows : List (List Int)} : ∀ {k : Nat} {s : List Int}, s.Nodup → (s ++ (strataF n rows k s).flatten).Nodup
  | 0, s, h => by show (s ++ ([] : List (List Int)).flatten).Nodup; simpa using h
  | k + 1, s, h => by
    by_cases c : freeL n rows s = []
    · rw [strataF_nil c]; simpa using h
    · rw [strataF_cons c, List.flatten_cons, ← List.append_assoc]
      refine strata_nd (k := k) (s := s ++ freeL n rows s) ?_
      rw [List.nodup_append]
      exact ⟨h, freeL_nd, fun a m b m2 e => (free_mem m2).2 (e ▸ m)⟩
theorem strata_sub {n : Nat} {rows : List (List Int)} {T : List Int} (hA : ∀ s : List Int, (∀ i ∈ s, i ∈ T) → ∀ i ∈ freeL n rows s, i ∈ T) : ∀ {k : Nat} {s : List Int}, (∀ i ∈ s, i ∈ T) → ∀ i ∈ (strataF n rows k s).flatten, i ∈ T
  | 0, s, h, i, m => by cases m
  | k + 1, s, h, i, m => by
    by_cases c : freeL n rows s = []
    · rw [strataF_nil c] at m; cases m
    · rw [strataF_cons c, List.flatten_cons] at m
      rcases List.mem_append.mp m with m | m
      · exact hA s h i m
      · exact strata_sub hA (k := k) (s := s ++ freeL n rows s) (fun j mj => (List.mem_append.mp mj).elim (h j) (hA s h j)) i m
theorem strata_sup {n : Nat} {rows : List (List Int)} {T : List Int} (hA : ∀ s : List Int, (∀ i ∈ s, i ∈ T) → ∀ i ∈ freeL n rows s, i ∈ T) (hB : ∀ s : List Int, (∀ i ∈ s, i ∈ T) → freeL n rows s = [] → ∀ i ∈ T, i ∈ s) : ∀ {k : Nat} {s : List Int}, (∀ i ∈ s, i ∈ T) → leftN n s ≤ k → ∀ i ∈ T, i ∈ s ++ (strataF n rows k s).flatten
  | k, s, h, hk, i, m => by
    by_cases c : freeL n rows s = []
    · exact List.mem_append_left _ (hB s h c i m)
    · have lt := left_lt c
      match k, hk with
      | 0, hk => omega
      | k + 1, hk =>
        rw [strataF_cons c, List.flatten_cons, ← List.append_assoc]
        exact strata_sup hA hB (k := k) (s := s ++ freeL n rows s) (fun j mj => (List.mem_append.mp mj).elim (h j) (hA s h j)) (by omega) i m
theorem G_perm {n : Nat} {rows : List (List Int)} {T : List Int} (hT : T.Nodup) (hA : ∀ s : List Int, (∀ i ∈ s, i ∈ T) → ∀ i ∈ freeL n rows s, i ∈ T) (hB : ∀ s : List Int, (∀ i ∈ s, i ∈ T) → freeL n rows s = [] → ∀ i ∈ T, i ∈ s) : (G n rows).flatten.Perm T := by
  have h0 : ∀ i ∈ ([] : List Int), i ∈ T := fun i m => by cases m
  have nd := strata_nd (n := n) (rows := rows) (k := n) (s := []) List.nodup_nil
  rw [List.nil_append] at nd
  refine (List.perm_ext_iff_of_nodup nd hT).mpr fun i => ⟨strata_sub hA h0 i, fun m => ?_⟩
  have := strata_sup hA hB (k := n) h0 (by
    have := List.length_filter_le (fun i => !([] : List Int).contains i) (intsTo n)
    rw [intsTo_len] at this; exact this) i m
  rw [List.nil_append] at this; exact this
def IsPerm (n : Nat) (o : List Int) : Prop := o.Perm (intsTo n)
theorem IsPerm.ord {n : Nat} {o : List Int} (h : IsPerm n o) : IsOrd n o := isOrd_of h
theorem IsPerm.at {n : Nat} {o : List Int} (h : IsPerm n o) {i : Int} (h0 : 0 ≤ i) (h1 : i < n) : ∃ j, ∃ hj : j < o.length, o[j] = i := List.mem_iff_getElem.mp (h.mem_iff.mpr (intsTo_mem.mpr ⟨h0, h1⟩))
theorem mem_take {o : List Int} {top : Nat} {i : Int} : i ∈ o.take top ↔ ∃ j, ∃ hj : j < o.length, j < top ∧ o[j] = i := by
  constructor
  · intro m
    obtain ⟨j, hj, e⟩ := List.mem_iff_getElem.mp m
    rw [List.getElem_take] at e
    rw [List.length_take] at hj
    exact ⟨j, by omega, by omega, e⟩
  · rintro ⟨j, hj, l, rfl⟩
    exact List.mem_iff_getElem.mpr ⟨j, by rw [List.length_take]; omega, by rw [List.getElem_take]⟩
theorem nt_iff {r s : List Int} : nt r s = true ↔ ∀ i ∈ s, atR r i = 0 := by
  unfold nt
  rw [List.all_eq_true]
  exact ⟨fun h i m => of_decide_eq_true (h i m), fun h i m => decide_eq_true (h i m)⟩
theorem freeP_iff {rows : List (List Int)} {s : List Int} {i : Int} : freeP rows s i = true ↔ i ∉ s ∧ ∀ r ∈ rows, (∀ j ∈ s, atR r j = 0) → 0 ≤ atR r i := by
  unfold freeP
  rw [Bool.and_eq_true, Bool.not_eq_true', Bool.not_eq_true', List.any_eq_false]
  constructor
  · rintro ⟨h1, h2⟩
    refine ⟨fun m => ?_, fun r m hz => ?_⟩
    · rw [List.contains_iff_mem.mpr m] at h1; cases h1
    · have := h2 r (List.mem_filter.mpr ⟨m, nt_iff.mpr hz⟩)
      have h3 : ¬ atR r i < 0 := fun z => this (decide_eq_true z)
      omega
  · rintro ⟨h1, h2⟩
    refine ⟨?_, fun r m z => ?_⟩
    · cases e : s.contains i with
      | false => rfl
      | true => exact absurd (List.contains_iff_mem.mp e) h1
    · obtain ⟨m1, m2⟩ := List.mem_filter.mp m
      have := h2 r m1 (nt_iff.mp m2)
      have := of_decide_eq_true z
      omega
theorem freeL_iff {n : Nat} {rows : List (List Int)} {s : List Int} {i : Int} : i ∈ freeL n rows s ↔ (0 ≤ i ∧ i < (n : Int)) ∧ i ∉ s ∧ ∀ r ∈ rows, (∀ j ∈ s, atR r j = 0) → 0 ≤ atR r i := by
  unfold freeL
  rw [List.mem_filter, intsTo_mem, freeP_iff]
theorem world_perm {n top : Nat} {o : List Int} {rows : List (List Int)} (ho : IsPerm n o) (h : World n o top rows) : (G n rows).flatten.Perm (o.take top) := by
  have hO := ho.ord
  refine G_perm (List.Sublist.nodup (List.take_sublist _ _) hO.1) ?_ ?_
  · intro s hs i m
    obtain ⟨⟨h0, h1⟩, h2, h3⟩ := freeL_iff.mp m
    obtain ⟨j, hj, rfl⟩ := ho.at h0 h1
    by_cases c : j < top
    · exact mem_take.mpr ⟨j, hj, c, rfl⟩
    · obtain ⟨r, mr, hz, hneg⟩ := h.2 j hj (by omega) hj
      have := h3 r mr fun q mq => by
        obtain ⟨q', hq', lq, rfl⟩ := mem_take.mp (hs q mq)
        exact hz q' hq' lq
      omega
  · intro s hs he
    have key : ∀ p, ∀ hp : p < o.length, p < top → o[p] ∈ s := fun p => by
      induction p using Nat.strongRecOn with
      | ind p ih =>
        intro hp ht
        by_cases c : o[p] ∈ s
        · exact c
        · have : o[p] ∈ freeL n rows s := freeL_iff.mpr ⟨ord_get hO hp, c, fun r mr hz => by
            obtain ⟨_, hb⟩ := h.1 r mr
            by_cases hneg : atR r o[p] < 0
            · have := bel_lead (r := r) (v := atR r o[p]) (by omega) (take_lt ht hp) (fun q hq l => by
                rw [List.length_take] at hq
                rw [List.getElem_take]
                exact hz _ (ih q l (by omega) (by omega))) (by rw [List.getElem_take])
              rw [hb] at this
              have := of_decide_eq_false this.symm
              omega
            · omega⟩
          rw [he] at this; cases this
    intro i m
    obtain ⟨j, hj, l, rfl⟩ := mem_take.mp m
    exact key j hj l
/-! links alone -/
theorem filter_one {p : Int → Bool} {a : Int} : ∀ {l : List Int}, l.Nodup → a ∈ l → (∀ i ∈ l, p i = true ↔ i = a) → l.filter p = [a]
  | [], _, m, _ => by cases m
  | x :: l, nd, m, h => by
    obtain ⟨n1, n2⟩ := List.nodup_cons.mp nd
    by_cases e : x = a
    · subst e
      rw [List.filter_cons, if_pos ((h x List.mem_cons_self).mpr rfl)]
      have : l.filter p = [] := List.filter_eq_nil_iff.mpr fun y my hy => n1 ((h y (List.mem_cons_of_mem _ my)).mp hy ▸ my)
      rw [this]
    · rw [List.filter_cons, if_neg (fun z => e ((h x List.mem_cons_self).mp z))]
      refine filter_one n2 ?_ fun i mi => h i (List.mem_cons_of_mem _ mi)
      rcases List.mem_cons.mp m with rfl | m
      · exact absurd rfl e
      · exact m
def Links (n : Nat) (o : List Int) (L : List (List Int)) : Prop := L.length = n ∧ ∀ p (hp : p < L.length), LinkP n o p L[p]
theorem links_free {n k : Nat} {o : List Int} {L : List (List Int)} (ho : IsPerm n o) (h : Links n o L) (hk : k < o.length) : freeL n L (o.take k) = [o[k]] := by
  have hO := ho.ord
  have hol : o.length = n := hO.2.1
  unfold freeL
  refine filter_one (intsTo_nd n) (intsTo_mem.mpr (ord_get hO hk)) fun i mi => ?_
  obtain ⟨i0, i1⟩ := intsTo_mem.mp mi
  obtain ⟨j, hj, rfl⟩ := ho.at i0 i1
  rw [freeP_iff]
  constructor
  · rintro ⟨h1, h2⟩
    by_cases c : j = k
    · subst c; rfl
    · by_cases l : j < k
      · exact absurd (mem_take.mpr ⟨j, hj, l, rfl⟩) h1
      · have hL : j - 1 < L.length := by rw [h.1]; omega
        obtain ⟨_, hz, _, hn, _⟩ := h.2 (j - 1) hL
        have := h2 _ (List.getElem_mem hL) fun q mq => by
          obtain ⟨q', hq', lq, rfl⟩ := mem_take.mp mq
          exact hz q' hq' (by omega)
        have hh := hn (by omega)
        have e : o[j - 1 + 1]'(by omega) = o[j] := by congr 1; omega
        rw [e] at hh
        omega
  · intro e
    have ejk : j = k := (List.getElem_inj hO.1).mp e
    subst ejk
    refine ⟨fun m => ?_, fun r mr hz => ?_⟩
    · obtain ⟨q, hq, lq, e⟩ := mem_take.mp m
      have := (List.getElem_inj hO.1).mp e
      omega
    · obtain ⟨p, hp, rfl⟩ := List.mem_iff_getElem.mp mr
      obtain ⟨_, hz1, hp1, _, hz2⟩ := h.2 p hp
      have hpo : p < o.length := by rw [h.1] at hp; omega
      by_cases c : p < j
      · have := hz _ (mem_take.mpr ⟨p, hpo, c, rfl⟩)
        have := hp1 hpo
        omega
      · by_cases c2 : p = j
        · subst c2; have := hp1 hpo; omega
        · have := hz1 j hj (by omega); omega
theorem links_strata {n : Nat} {o : List Int} {L : List (List Int)} (ho : IsPerm n o) (h : Links n o L) : ∀ {m k : Nat}, m + k = n → strataF n L m (o.take k) = (o.drop k).map fun i => [i]
  | 0, k, e => by
    have hol : o.length = n := ho.ord.2.1
    rw [List.drop_eq_nil_of_le (by omega)]; rfl
  | m + 1, k, e => by
    have hol : o.length = n := ho.ord.2.1
    have hk : k < o.length := by omega
    have hf := links_free ho h hk
    rw [strataF_cons (by rw [hf]; exact List.cons_ne_nil _ _), hf]
    rw [show o.take k ++ [o[k]] = o.take (k + 1) by rw [List.take_add_one, List.getElem?_eq_getElem hk]; rfl]
    rw [links_strata ho h (m := m) (k := k + 1) (by omega), List.drop_eq_getElem_cons hk]; rfl
theorem links_G {n : Nat} {o : List Int} {L : List (List Int)} (ho : IsPerm n o) (h : Links n o L) : G n L = o.map fun i => [i] := by
  have := links_strata ho h (m := n) (k := 0) (by omega)
  rw [List.take_zero, List.drop_zero] at this
  exact this
end K16

set_option autoImplicit false
namespace K16
open PySem PySem.Spec L2 Pm
theorem py_lay : ∀ l : List Int, PyData.canLayAll0 (toPys (l.map .int)) = true
  | [] => rfl
  | i :: l => by
    show (PyData.canLay0 (PyData.int i) && PyData.canLayAll0 (toPys (l.map .int))) = true
    rw [py_lay l]; rfl
theorem py_depth : ∀ l : List Int, PyData.depthAll (toPys (l.map .int)) = 0
  | [] => rfl
  | i :: l => by
    show max (PyData.depth (PyData.int i)) (PyData.depthAll (toPys (l.map .int))) = 0
    rw [py_depth l]; rfl
theorem py_eqv : ∀ l : List Int, PyData.eqvAll (toPys (l.map .int)) (toPys (l.map .int)) = true
  | [] => rfl
  | i :: l => by
    show (PyData.eqv (PyData.int i) (PyData.int i) && PyData.eqvAll (toPys (l.map .int)) (toPys (l.map .int))) = true
    rw [py_eqv l, Bool.and_true]
    show (i == i) = true
    simp
theorem dNe_same (l : List Int) : dNe (.own (l.map .int)) (.own (l.map .int)) = some (.bl false) := by
  have h : SeqAt.shaped (toPy (.own (l.map .int))) = true := by
    show (PyData.canLayAll0 (toPys (l.map .int)) && decide (PyData.depthAll (toPys (l.map .int)) + 1 ≤ 64)) = true
    rw [py_lay, py_depth]; rfl
  have e : PyData.eqv (toPy (.own (l.map .int))) (toPy (.own (l.map .int))) = true := py_eqv l
  unfold dNe
  rw [if_pos ⟨h, h⟩, e]; rfl
/-! any rows -/
def AnyQ (n : Nat) : D → List D → Prop := fun d os => ∃ (rows : List (List Int)) (f' : D), d = .tup (rowsD rows) ∧ os = [f'] ∧ Fd f' ∧ rows.length ≤ 1000 ∧ Rect n rows
theorem any_rows_ok {f : D} (hf : Fd f) {n : Nat} (hn : n ≤ 100) : WpR (m_law_any_rows [f, .int (n : Int)]) (AnyQ n) := by
  have rc : rngC (n : Int) = true := rngC_of (by omega) (by omega)
  refine wpr_mk rfl ?_
  unfold b_law_any_rows
  rw [show startE 5 [f, .int (n : Int)] = [some f, some (.int (n : Int)), none, none, none] from rfl]
  refine wp_mid (fun w => w = [some f, some (.int (n : Int)), some (.own (rowsD [])), none, none]) (by simp [rowsD]) ?_
  rintro w rfl
  refine wp_mid (fun w => ∃ f' x3 x4, ∃ rows : List (List Int), Fd f' ∧ rows.length ≤ 1000 ∧ Rect n rows ∧ w = [some f', some (.int (n : Int)), some (.own (rowsD rows)), x3, x4]) ?_ ?_
  · simp only [wp_For, lz_iW, wp_cons, lz_2gg, wp_C, lz_Cal, lz_Z, slot_zero, ob_some, kQ_fd hf, wp_nil]
    refine ⟨rfl, WpR.mono (draw_ok hf (by decide) (by decide)) ?_⟩
    rintro d os ⟨v, f1, rfl, rfl, hv0, hv1, hf1⟩
    have rcv : rngC (1 + v) = true := rngC_of (by omega) (by omega)
    simp [rcv]
    refine lz_for (fun i w => ∃ f' x3 x4, ∃ rows : List (List Int), Fd f' ∧ rows.length = i ∧ Rect n rows ∧ w = [some f', some (.int (n : Int)), some (.own (rowsD rows)), x3, x4]) ⟨f1, none, none, [], hf1, rfl, (fun r m => by cases m), rfl⟩ ?_ ?_
    · rintro w ⟨f', x3, x4, rows, hf', hl, hr, rfl⟩
      rw [rngD_len] at hl
      simp
      exact ⟨f', hf', _, _, rows, by omega, hr, rfl, rfl, rfl, rfl⟩
    · rintro i d w hi ⟨f', x3, x4, rows, hf', hl, hr, rfl⟩
      obtain ⟨rfl, hi2⟩ := toNat_range i hi
      simp [rc]
      refine lz_cmp (fun j acc w => ∃ f' x4, ∃ r : List Int, Fd f' ∧ r.length = j ∧ acc = r.map .int ∧ w = [some f', some (.int (n : Int)), some (.own (rowsD rows)), some (.int (i : Int)), x4]) ⟨f', x4, [], hf', rfl, rfl, rfl⟩ ?_ ?_
      · rintro acc w ⟨f2, y4, r, hf2, hr2, rfl, rfl⟩
        rw [rngD_len] at hr2
        simp
        refine ⟨line' (by omega), f2, hf2, _, _, rows ++ [r], by simp [hl], fun y m => ?_, rfl, rowsD_one, rfl, rfl⟩
        rcases List.mem_append.mp m with m | m
        · exact hr y m
        · rw [List.mem_singleton.mp m]; exact hr2
      · rintro j d acc w hj ⟨f2, y4, r, hf2, hr2, rfl, rfl⟩
        obtain ⟨rfl, hj2⟩ := toNat_range (n := (n : Int)) j (by simpa using hj)
        simp [hf2]
        refine WpR.mono (draw_ok hf2 (by decide) (by decide)) ?_
        rintro d os ⟨v2, f3, rfl, rfl, hw0, hw1, hf3⟩
        simp [hf3]
        refine WpR.mono (size_ok hf3) ?_
        rintro d os ⟨u, f4, rfl, rfl, hu0, hu1, hf4⟩
        have e1 : mulC (v2 - 1) u = true := mulC_s (by omega) (by omega) (by omega) (by omega)
        simp [e1]
        exact ⟨line' (by omega), f4, hf4, _, r ++ [(v2 - 1) * u], by simp [hr2], by simp, rfl, rfl⟩
  rintro w ⟨f', x3, x4, rows, hf', hl, hr, rfl⟩
  simp
  exact ⟨rows, f', rfl, rfl, hf', hl, hr⟩
/-! sets of rules, asked one by one -/
theorem frees_ok {f : D} (hf : Fd f) {n : Nat} {o : List Int} {rows : List (List Int)} (ho : IsPerm n o) (hn : n ≤ 100) (hl : rows.length ≤ 1000) (hr : Rect n rows) : WpR (m_law_frees [f, .lst (o.map .int), .tup (rowsD rows)]) TruQ := by
  have hO := ho.ord
  have hol : o.length = n := hO.2.1
  have rc : rngC (n : Int) = true := rngC_of (by omega) (by omega)
  have rc1 : rngC ((n : Int) + 1) = true := rngC_of (by omega) (by omega)
  refine wpr_mk rfl ?_
  unfold b_law_frees
  rw [show startE 10 [f, .lst (o.map .int), .tup (rowsD rows)] = [some f, some (.lst (o.map .int)), some (.tup (rowsD rows)), none, none, none, none, none, none, none] from rfl]
  refine wp_mid (fun w => w = [some f, some (.lst (o.map .int)), some (.tup (rowsD rows)), some (.int (n : Int)), none, none, none, none, none, none]) (by simp [hol]) ?_
  rintro w rfl
  refine wp_mid (fun w => ∃ SS : List (List Int), w = [some f, some (.lst (o.map .int)), some (.tup (rowsD rows)), some (.int (n : Int)), some (.own (rowsD SS)), none, none, none, none, none] ∧ SS.length = n + 1 ∧ ∀ s ∈ SS, InN n s) ?_ ?_
  · simp only [lz_Set, wp_Comp, lz_iW, wp_cons, lz_2vg, slot_zero, slot_succ, ob_some, wp_C, dAdd_int, wp_nil, lz_qR1, rc1, true_and, show ((n : Int) + 1).toNat = n + 1 by omega, rngD_ints]
    refine cmp_filt D.int (fun k => D.tup ((sortI (o.take k.toNat)).map .int)) (intsTo (n + 1)) (fun _ => true) (by simp) (by rw [intsTo_len]; omega) (fun i m => by simp) (fun i m _ => ?_) fun w2 e el => ?_
    · obtain ⟨i0, i1⟩ := intsTo_mem.mp m
      have ct : cutD (o.map D.int) none (some i) = (o.take i.toNat).map .int := by
        have ei : ((i.toNat : Nat) : Int) = i := by omega
        have := cutD_to (xs := o.map D.int) i.toNat
        rw [ei] at this
        rw [this, List.map_take]
      simp only [lz_1g, lz_Slv, slot_succ, slot_zero, ob_some, wp_bN, lz_bS, lz_P, qV_eq, List.set_cons_succ, List.set_cons_zero, pl_int, true_and, intD_int, dSl_lst, pls_ints, if_true, ct, dSorted_own, dTuple_own, ob_ite]
      try exact ⟨rfl, rfl⟩
    · simp at e el
      simp [e, el]
      refine ⟨(intsTo (n + 1)).map fun k => sortI (o.take k.toNat), ?_, by rw [List.length_map, intsTo_len], fun s m i mi => ?_⟩
      · unfold rowsD; rw [List.map_map, List.filter_eq_self.mpr (fun _ _ => rfl)]; rfl
      · obtain ⟨k, _, rfl⟩ := List.mem_map.mp m
        exact hO.2.2 i (List.mem_of_mem_take ((sortI_perm _).mem_iff.mp mi))
  rintro w ⟨SS0, rfl, hS0, hI0⟩
  refine wp_mid (fun w => ∃ f' x5 x7, ∃ SS : List (List Int), Fd f' ∧ w = [some f', some (.lst (o.map .int)), some (.tup (rowsD rows)), some (.int (n : Int)), some (.own (rowsD SS)), x5, none, x7, none, none] ∧ SS.length ≤ n + 10 ∧ ∀ s ∈ SS, InN n s) ?_ ?_
  · simp [show rngC 2 = true from rngC_of (by omega) (by omega)]
    refine lz_for (fun i w => ∃ f' x5 x7, ∃ SS : List (List Int), Fd f' ∧ w = [some f', some (.lst (o.map .int)), some (.tup (rowsD rows)), some (.int (n : Int)), some (.own (rowsD SS)), x5, none, x7, none, none] ∧ SS.length ≤ n + 1 + i ∧ ∀ s ∈ SS, InN n s) ⟨f, none, none, SS0, hf, rfl, by omega, hI0⟩ ?_ ?_
    · rintro w ⟨f', x5, x7, SS, hf', rfl, hl2, hI⟩
      rw [rngD_len] at hl2
      simp
      exact ⟨f', hf', _, _, SS, ⟨rfl, rfl, rfl, rfl⟩, by omega, hI⟩
    · rintro i d w hi ⟨f', x5, x7, SS, hf', rfl, hl2, hI⟩
      have hi2 : i < 2 := by have := (List.getElem?_eq_some_iff.mp hi).1; rw [rngD_len] at this; exact this
      have ed := rngD_get hi
      rw [Int.zero_add] at ed
      subst ed
      simp only [lz_nm, List.length_cons, List.length_nil, List.set_cons_succ, List.set_cons_zero]
      refine ⟨by decide, ?_⟩
      refine wp_mid (fun w => ∃ f', ∃ bs : List Int, Fd f' ∧ bs.length = n ∧ w = [some f', some (.lst (o.map .int)), some (.tup (rowsD rows)), some (.int (n : Int)), some (.own (rowsD SS)), some (.int (i : Int)), none, some (.own (bs.map .int)), none, none]) ?_ ?_
      · simp [rc]
        refine lz_cmp (fun j acc w => ∃ f' x9, ∃ bs : List Int, Fd f' ∧ bs.length = j ∧ acc = bs.map .int ∧ w = [some f', some (.lst (o.map .int)), some (.tup (rowsD rows)), some (.int (n : Int)), some (.own (rowsD SS)), some (.int (i : Int)), none, x7, none, x9]) ⟨f', none, [], hf', rfl, rfl, rfl⟩ ?_ ?_
        · rintro acc w ⟨f2, y9, bs, hf2, hb, rfl, rfl⟩
          rw [rngD_len] at hb
          simp
          exact ⟨f2, hf2, bs, hb, rfl, rfl⟩
        · rintro j d acc w hj ⟨f2, y9, bs, hf2, hb, rfl, rfl⟩
          obtain ⟨rfl, hj2⟩ := toNat_range (n := (n : Int)) j (by simpa using hj)
          simp [hf2]
          refine WpR.mono (draw_ok hf2 (by decide) (by decide)) ?_
          rintro d os ⟨v2, f3, rfl, rfl, hw0, hw1, hf3⟩
          simp
          exact ⟨line' (by omega), f3, hf3, _, bs ++ [v2], by simp [hb], by simp, rfl, rfl⟩
      · rintro w ⟨f2, bs, hf2, hb, rfl⟩
        simp only [wp_Expr, lz_App, slot_succ, slot_zero, ob_some, ownD_own, lz_1g, wp_Comp, lz_iW, wp_cons, lz_P, qV_eq, pl_int, true_and, wp_nil, lz_qR1, rc, Int.toNat_natCast, rngD_ints]
        refine cmp_filt D.int D.int (intsTo n) (fun i => decide (bs.getD i.toNat 0 = 1)) (by simp) (by rw [intsTo_len]; omega) (fun v m => ?_) (fun v m _ => by simp) fun w2 e el => ?_
        · obtain ⟨i0, i1⟩ := intsTo_mem.mp m
          have gx : seqIx (bs.map D.int) v = some (.int (bs.getD v.toNat 0)) := seqIx_at i0 (by omega)
          simp [gx]
        · simp at e el
          simp [e, el]
          refine ⟨line' (by omega), f2, hf2, _, _, SS ++ [(intsTo n).filter fun i => decide (bs.getD i.toNat 0 = 1)], ⟨rfl, ?_, rfl, rfl⟩, by simp; omega, fun s m => ?_⟩
          · simp [rowsD]
          · rcases List.mem_append.mp m with m | m
            · exact hI s m
            · rw [List.mem_singleton.mp m]
              exact fun i mi => intsTo_mem.mp (List.mem_filter.mp mi).1
  rintro w ⟨f1, x5, x7, SS, hf1, rfl, hSl, hI⟩
  refine wp_mid (fun w => ∃ x6 x4, w = [some f1, some (.lst (o.map .int)), some (.tup (rowsD rows)), some (.int (n : Int)), x4, x5, x6, x7, none, none]) ?_ ?_
  · simp
    refine lz_for (fun i w => ∃ x6, w = [some f1, some (.lst (o.map .int)), some (.tup (rowsD rows)), some (.int (n : Int)), none, x5, x6, x7, none, none]) ⟨none, rfl⟩ ?_ ?_
    · rintro w ⟨x6, rfl⟩
      simp
    · rintro i d w hi ⟨x6, rfl⟩
      obtain ⟨hi', rfl⟩ := rowsD_at hi
      have hs := hI _ (List.getElem_mem hi')
      generalize SS[i] = s at hs
      have fl := free_len (n := n) (rows := rows) (s := s)
      simp
      refine WpR.mono (free_rules_ok (by omega) hl hr hs) ?_
      rintro d os ⟨rfl, rfl⟩
      try simp
      refine WpR.mono (law_free_ok (.inl rfl) (by omega) hr hs) ?_
      rintro d os ⟨rfl, rfl⟩
      try simp
      refine WpR.mono (same_ok (.inr (.inr rfl)) (by omega)) ?_
      rintro d os ⟨rfl, rfl⟩
      try simp
  rintro w ⟨x6, x4, rfl⟩
  simp
  exact ⟨f1, rfl, rfl, hf1⟩
end K16

set_option autoImplicit false
namespace K16
open PySem PySem.Spec L2 Pm
def Due (n : Nat) (rows : List (List Int)) (reach : D) : Prop := reach = .non ∨ ∃ R : List Int, IsSeq reach (R.map .int) ∧ (G n rows).flatten.Perm R
theorem flat_len {n : Nat} {rows : List (List Int)} (hn : n ≤ 100) : ∀ i, ((G n rows).take i).flatten.length ≤ 10000 := fun i => by
  have hb := strataF_in (n := n) (rows := rows) (k := n) (s := [])
  have : ∀ (S : List (List Int)), (∀ m ∈ S, m.length ≤ n) → S.flatten.length ≤ S.length * n := fun S => by
    induction S with
    | nil => intro _; simp
    | cons a S ih =>
      intro h
      rw [List.flatten_cons, List.length_append, List.length_cons, Nat.succ_mul]
      have := ih fun m hm => h m (List.mem_cons_of_mem _ hm)
      have := h a List.mem_cons_self
      omega
  have h1 := this ((G n rows).take i) fun m hm => hb.2 m (List.mem_of_mem_take hm)
  have h2 : ((G n rows).take i).length ≤ 100 := by rw [List.length_take]; unfold G; have := hb.1; omega
  exact Nat.le_trans h1 (Nat.le_trans (Nat.mul_le_mul h2 hn) (by decide))
theorem asked_ok {f reach : D} (hf : Fd f) {n : Nat} {o : List Int} {rows : List (List Int)} (ho : IsPerm n o) (hn : n ≤ 10) (hl : rows.length ≤ 1000) (hr : Rect n rows) (hd : Due n rows reach) : WpR (m_law_asked [f, .lst (o.map .int), .tup (rowsD rows), reach]) TruQ := by
  have hol : o.length = n := ho.ord.2.1
  have rc : rngC (n : Int) = true := rngC_of (by omega) (by omega)
  have hb := strataF_in (n := n) (rows := rows) (k := n) (s := [])
  have hbl : (G n rows).length ≤ n := hb.1
  have hbm : ∀ m ∈ G n rows, m.length ≤ n := hb.2
  have fl := flat_len (n := n) (rows := rows) (by omega)
  have flt : (G n rows).flatten.length ≤ 10000 := by
    have := fl (G n rows).length
    rw [List.take_length] at this; exact this
  have rl : (reachL n rows).length ≤ 10000 := by unfold reachL; rw [(sortI_perm _).length_eq]; exact flt
  have rln : (reachL n rows).length ≤ 1000 := by
    have h : ∀ (S : List (List Int)), (∀ m ∈ S, m.length ≤ n) → S.flatten.length ≤ S.length * n := fun S => by
      induction S with
      | nil => intro _; simp
      | cons a S ih =>
        intro h
        rw [List.flatten_cons, List.length_append, List.length_cons, Nat.succ_mul]
        have := ih fun m hm => h m (List.mem_cons_of_mem _ hm)
        have := h a List.mem_cons_self
        omega
    have h1 := h _ hbm
    have h2 : (G n rows).length * n ≤ 10 * 10 := Nat.mul_le_mul (by omega) hn
    unfold reachL; rw [(sortI_perm _).length_eq]; omega
  refine wpr_mk rfl ?_
  unfold b_law_asked
  rw [show startE 10 [f, .lst (o.map .int), .tup (rowsD rows), reach] = [some f, some (.lst (o.map .int)), some (.tup (rowsD rows)), some reach, none, none, none, none, none, none] from rfl]
  refine wp_mid (fun w => w = [some f, some (.lst (o.map .int)), some (.tup (rowsD rows)), some reach, some (.int (n : Int)), none, none, none, none, none]) (by simp [hol]) ?_
  rintro w rfl
  refine wp_mid (fun w => w = [some f, some (.lst (o.map .int)), some (.tup (rowsD rows)), some reach, some (.int (n : Int)), some (.tup (rowsD (G n rows))), none, none, none, none]) ?_ ?_
  · simp
    refine WpR.mono (law_strata_ok (by omega) hr) ?_
    rintro d os ⟨rfl, rfl⟩
    try simp
  rintro w rfl
  refine wp_mid (fun w => w = [some f, some (.lst (o.map .int)), some (.tup (rowsD rows)), some reach, some (.int (n : Int)), some (.tup (rowsD (G n rows))), none, none, none, none]) ?_ ?_
  · simp
    refine WpR.mono (strata_of_ok (by omega) hl hr) ?_
    rintro d os ⟨rfl, rfl⟩
    try simp
    refine WpR.mono (same_sets_ok (.inl rfl) (by omega) fun m hm => by have := hbm m hm; omega) ?_
    rintro d os ⟨rfl, rfl⟩
    try simp
  rintro w rfl
  refine wp_mid (fun w => w = [some f, some (.lst (o.map .int)), some (.tup (rowsD rows)), some reach, some (.int (n : Int)), some (.tup (rowsD (G n rows))), some (.own (([] : List Int).map .int)), none, none, none]) (by simp) ?_
  rintro w rfl
  refine wp_mid (fun w => ∃ x7, w = [some f, some (.lst (o.map .int)), some (.tup (rowsD rows)), some reach, some (.int (n : Int)), some (.tup (rowsD (G n rows))), some (.own ((G n rows).flatten.map .int)), x7, none, none]) ?_ ?_
  · simp only [wp_For, lz_iW, wp_cons, lz_K, slot_succ, slot_zero, ob_some, kQ_tup, pls_rowsD, if_true, wp_nil, lz_qG, seqP_tup]
    generalize G n rows = S at fl
    refine lz_for (fun i w => ∃ x7, ∃ F : List Int, w = [some f, some (.lst (o.map .int)), some (.tup (rowsD rows)), some reach, some (.int (n : Int)), some (.tup (rowsD S)), some (.own (F.map .int)), x7, none, none] ∧ F = (S.take i).flatten) ⟨none, [], rfl, rfl⟩ ?_ ?_
    · rintro w ⟨x7, F, rfl, hF⟩
      rw [rowsD_len, List.take_length] at hF
      rw [hF]
      exact ⟨rfl, x7, rfl⟩
    · rintro i d w hi ⟨x7, F, rfl, hF⟩
      obtain ⟨hi', rfl⟩ := rowsD_at hi
      have tk : (S.take (i + 1)) = S.take i ++ [S[i]] := by rw [List.take_add_one, List.getElem?_eq_getElem hi']; rfl
      have hF2 : F ++ S[i] = (S.take (i + 1)).flatten := by rw [tk, hF, List.flatten_append, List.flatten_cons, List.flatten_nil, List.append_nil]
      have l1 := fl (i + 1)
      rw [← hF2, List.length_append] at l1
      rw [← hF2]
      generalize S[i] = m at l1
      have lz : F.length + m.length ≤ sizeLine := line (by omega)
      have dl : dList (.tup (m.map .int)) = some (.own (m.map .int)) := by
        show (if pls (m.map D.int) = true then some (D.own (m.map .int)) else none) = _
        rw [if_pos pls_ints]
      simp only [lz_nm, List.length_cons, List.length_nil, List.set_cons_succ, List.set_cons_zero, lz_Set, lz_2vg, slot_succ, slot_zero, ob_some, lz_1p, qV_eq, dl, dAdd_own, pls_ints, List.length_map, lz, and_self, if_true, loopQ_nx]
      refine ⟨by decide, by decide, some (.tup (m.map .int)), F ++ m, ?_, rfl⟩
      rw [List.map_append]
  rintro w ⟨x7, rfl⟩
  refine wp_mid (fun w => w = [some f, some (.lst (o.map .int)), some (.tup (rowsD rows)), some reach, some (.int (n : Int)), some (.tup (rowsD (G n rows))), some (.own ((G n rows).flatten.map .int)), x7, none, none]) ?_ ?_
  · unfold Due at hd
    generalize (G n rows).flatten = C at hd
    rcases hd with rfl | ⟨R, hR, hp⟩
    · simp
    · have n0 : isN reach = false := by rcases hR with rfl | rfl | rfl <;> rfl
      have ds : dSorted reach = some (.own ((sortI R).map .int)) := by rcases hR with rfl | rfl | rfl <;> simp
      have se : sortI R = sortI C := sortI_eq ((sortI_perm R).trans hp.symm) (sortI_pw R)
      simp [n0, ds, se, dNe_same]
  rintro w rfl
  refine wp_mid (fun w => w = [some f, some (.lst (o.map .int)), some (.tup (rowsD rows)), some reach, some (.int (n : Int)), some (.tup (rowsD (G n rows))), some (.own ((G n rows).flatten.map .int)), x7, none, none]) ?_ ?_
  · simp
    refine WpR.mono (reach_of_ok (by omega) hl hr) ?_
    rintro d os ⟨rfl, rfl⟩
    have e : D.own ((G n rows).map (List.map D.int)).flatten = D.own ((G n rows).flatten.map .int) := by rw [List.map_flatten]
    simp only [e, dSorted_own, ob_some, dTuple_own, ob_ite, pls_ints, true_and, putB_nil2, lz_1g, lz_1p, qV_eq, slot_succ, slot_zero]
    refine WpR.mono (same_ok (l := reachL n rows) (.inl rfl) rln) ?_
    rintro d os ⟨rfl, rfl⟩
    try simp
  rintro w rfl
  refine wp_mid (fun w => w = [some f, some (.lst (o.map .int)), some (.tup (rowsD rows)), some reach, some (.int (n : Int)), some (.tup (rowsD (G n rows))), some (.own ((G n rows).flatten.map .int)), x7, some (.tup (((intsTo n).filter fun i => !(reachL n rows).contains i).map .int)), none]) ?_ ?_
  · simp only [lz_Set, lz_1g, wp_Comp, lz_iW, wp_cons, lz_P, qV_eq, slot_zero, slot_succ, ob_some, pl_int, true_and, wp_nil, lz_qR1, rc, Int.toNat_natCast, rngD_ints]
    have hc : ∀ i, (reachL n rows).contains i = (G n rows).flatten.contains i := fun i => by
      unfold reachL
      rw [Bool.eq_iff_iff, List.contains_iff_mem, List.contains_iff_mem]; exact (sortI_perm _).mem_iff
    generalize (G n rows).flatten = C at hc
    refine cmp_filt D.int D.int (intsTo n) (fun i => !(reachL n rows).contains i) (by simp) (by rw [intsTo_len]; omega) (fun i m => ?_) (fun i m _ => by simp) fun w2 e el => ?_
    · have := dIn_ints (neg := true) (i := i) (s := C) (d := .own (C.map .int)) (.inr (.inr rfl))
      simp [this]
      have := hc i
      simp at this
      simp [this]
    · simp at e el
      simp [e, el]
  rintro w rfl
  have hlf : ((intsTo n).filter fun i => !(reachL n rows).contains i).length ≤ 1000 := by
    have := List.length_filter_le (fun i => !(reachL n rows).contains i) (intsTo n)
    rw [intsTo_len] at this; omega
  simp only [wp_Ret, lz_xAnd, lz_Cal, wp_cons, lz_I, slot_succ, slot_zero, ob_some, iceQ_int, iceQ_tup, pls_rowsD, pls_ints, true_and, wp_nil]
  refine ⟨rfl, WpR.mono (rest_of_ok (by omega) hl hr) ?_⟩
  rintro d os ⟨rfl, rfl⟩
  simp only [putB_nil2, lz_I, slot_succ, slot_zero, ob_some, iceQ_tup, pls_ints, true_and]
  refine ⟨rfl, WpR.mono (same_ok (.inl rfl) hlf) ?_⟩
  rintro d os ⟨rfl, rfl⟩
  simp only [putB_nil2, blD_bl, ob_some, brQ_t, lz_Cal, lz_Z, wp_cons, lz_I, slot_succ, slot_zero, iceQ_lst, iceQ_tup, pls_rowsD, true_and, wp_nil, kQ_fd hf, List.set_cons_zero]
  refine ⟨rfl, WpR.mono (frees_ok hf ho (by omega) hl hr) ?_⟩
  rintro d os ⟨f', rfl, rfl, hf'⟩
  simp
  exact ⟨f', rfl, rfl, hf'⟩
/-! no rows -/
theorem free_none {n : Nat} {s : List Int} : freeL n [] s = (intsTo n).filter fun i => !s.contains i := by
  unfold freeL
  congr 1
  funext i
  unfold freeP
  simp
theorem G_none {n : Nat} (h : 1 ≤ n) : G n [] = [intsTo n] := by
  obtain ⟨m, rfl⟩ : ∃ m, n = m + 1 := ⟨n - 1, by omega⟩
  have e0 : freeL (m + 1) [] [] = intsTo (m + 1) := by
    rw [free_none]; exact List.filter_eq_self.mpr fun i _ => rfl
  have ne : intsTo (m + 1) ≠ [] := fun z => by
    have := intsTo_len (m + 1)
    rw [z] at this; cases this
  unfold G
  rw [strataF_cons (by rw [e0]; exact ne), e0, List.nil_append, strataF_nil]
  rw [free_none]
  exact List.filter_eq_nil_iff.mpr fun i m => by simp [m]
theorem intsTo_pw (n : Nat) : (intsTo n).Pairwise (· ≤ ·) := by
  unfold intsTo
  rw [List.pairwise_map]
  exact List.Pairwise.imp (fun h => by omega) (List.pairwise_lt_range (n := n))
theorem reach_none {n : Nat} (h : 1 ≤ n) : reachL n [] = intsTo n := by
  unfold reachL
  rw [G_none h]
  simp only [List.flatten_cons, List.flatten_nil, List.append_nil]
  exact (sortI_eq (List.Perm.refl _) (intsTo_pw n)).symm
theorem filt_head : ∀ {l : List Int}, l.Nodup → (l.filter fun i => !(l.take 1).contains i) = l.drop 1
  | [], _ => rfl
  | a :: l, nd => by
    obtain ⟨n1, n2⟩ := List.nodup_cons.mp nd
    rw [List.filter_cons]
    simp
    intro x m e
    exact n1 (e ▸ m)
end K16

set_option autoImplicit false
namespace K16
open PySem PySem.Spec L2 Pm
theorem dRngT_int {k : Nat} (h : k ≤ 1000) : dRngT (.int (k : Int)) = some (.tup ((intsTo k).map .int)) := by
  have rc : rngC (k : Int) = true := rngC_of (by omega) (by omega)
  unfold dRngT
  rw [dRng_int, if_pos ⟨rc, by omega⟩, Option.bind_some, dTuple_own, Int.toNat_natCast, rngD_ints, if_pos pls_ints]
theorem law_ok {ns : List Int} : WpR (m_law [.lst (ns.map .int)]) fun d os => d = .bl true ∧ os = [] := by
  refine wpr_mk rfl ?_
  unfold b_law
  rw [show startE 11 [.lst (ns.map D.int)] = [some (.lst (ns.map .int)), none, none, none, none, none, none, none, none, none, none] from rfl]
  refine wp_mid (fun w => ∃ f, Fd f ∧ w = [some (.lst (ns.map .int)), some f, none, none, none, none, none, none, none, none, none]) ?_ ?_
  · simp
    refine WpR.mono feed_ok ?_
    rintro d os ⟨hf, rfl⟩
    simp [hf]
  rintro w ⟨f1, hf1, rfl⟩
  refine wp_mid (fun w => ∃ f, ∃ n : Nat, Fd f ∧ 1 ≤ n ∧ n ≤ 6 ∧ w = [some (.lst (ns.map .int)), some f, some (.int (n : Int)), none, none, none, none, none, none, none, none]) ?_ ?_
  · simp [hf1]
    refine WpR.mono (draw_ok hf1 (by decide) (by decide)) ?_
    rintro d os ⟨v, f', rfl, rfl, hv0, hv1, hf'⟩
    simp
    exact ⟨f', hf', (1 + v).toNat, by omega, by omega, rfl, by omega⟩
  rintro w ⟨f2, n, hf2, hn1, hn6, rfl⟩
  have rc : rngC (n : Int) = true := rngC_of (by omega) (by omega)
  have n2 : n ≤ 16777216 := by omega
  refine wp_mid (fun w => ∃ f, ∃ wide : Bool, Fd f ∧ w = [some (.lst (ns.map .int)), some f, some (.int (n : Int)), some (.bl wide), none, none, none, none, none, none, none]) ?_ ?_
  · simp [hf2]
    refine WpR.mono (draw_ok hf2 (by decide) (by decide)) ?_
    rintro d os ⟨v, f', rfl, rfl, hv0, hv1, hf'⟩
    simp
    refine ⟨f', hf', ?_⟩
    by_cases c : v = 2
    · exact .inr ⟨rfl, c⟩
    · exact .inl ⟨rfl, c⟩
  rintro w ⟨f3, wide, hf3, rfl⟩
  refine wp_mid (fun w => ∃ f, ∃ o : List Int, Fd f ∧ IsPerm n o ∧ w = [some (.lst (ns.map .int)), some f, some (.int (n : Int)), some (.bl wide), some (.own (o.map .int)), none, none, none, none, none, none]) ?_ ?_
  · simp [hf3, rc, n2, rngD_ints]
    refine WpR.mono (shuffledD_ok hf3 (.inl rfl) pls_ints (by rw [List.length_map, intsTo_len]; omega)) ?_
    rintro d os ⟨q, f', rfl, rfl, hq, hf'⟩
    obtain ⟨m, rfl, hm⟩ := perm_mapD int_inj hq
    simp
    exact ⟨f', hf', m, hm, rfl, rfl⟩
  rintro w ⟨f4, o, hf4, ho, rfl⟩
  have hO := ho.ord
  have hol : o.length = n := hO.2.1
  have rect : ∀ {top : Nat} {rows : List (List Int)}, World n o top rows → Rect n rows := fun W r m => (W.1 r m).1
  refine wp_mid (fun w => ∃ f, Fd f ∧ w = [some (.lst (ns.map .int)), some f, some (.int (n : Int)), some (.bl wide), some (.lst (o.map .int)), none, none, none, none, none, none]) ?_ ?_
  · simp [hf4]
    refine WpR.mono (world_ok hf4 hO (by omega) (Nat.le_refl n)) ?_
    rintro d os ⟨rows, f5, rfl, rfl, hf5, hl, W⟩
    have wp := world_perm ho W
    rw [← hol, List.take_length] at wp
    simp [hf5]
    refine WpR.mono (asked_ok hf5 ho (by omega) hl (rect W) (.inr ⟨o, .inr (.inl rfl), by rw [← hol]; exact wp⟩)) ?_
    rintro d os ⟨f6, rfl, rfl, hf6⟩
    simp [hf6]
  rintro w ⟨f5, hf5, rfl⟩
  refine wp_mid (fun w => ∃ f, ∃ top : Nat, Fd f ∧ top ≤ n ∧ w = [some (.lst (ns.map .int)), some f, some (.int (n : Int)), some (.bl wide), some (.lst (o.map .int)), some (.int (top : Int)), none, none, none, none, none]) ?_ ?_
  · simp [hf5]
    refine WpR.mono (draw_ok hf5 (by omega) (by omega)) ?_
    rintro d os ⟨v, f', rfl, rfl, hv0, hv1, hf'⟩
    simp
    exact ⟨f', hf', v.toNat, by omega, rfl, by omega⟩
  rintro w ⟨f6, top, hf6, ht, rfl⟩
  refine wp_mid (fun w => ∃ f, Fd f ∧ w = [some (.lst (ns.map .int)), some f, some (.int (n : Int)), some (.bl wide), some (.lst (o.map .int)), some (.int (top : Int)), none, none, none, none, none]) ?_ ?_
  · simp [hf6]
    refine WpR.mono (world_ok hf6 hO (by omega) ht) ?_
    rintro d os ⟨rows, f7, rfl, rfl, hf7, hl, W⟩
    have wp := world_perm ho W
    have ct : cutD (o.map D.int) none (some (top : Int)) = (o.take top).map .int := by rw [cutD_to, List.map_take]
    simp only [putB_some, putB_nil, lz_Slv, slot_succ, slot_zero, ob_some, wp_bN, lz_bS, lz_P, qV_eq, pl_int, true_and, intD_int, dSl_lst, pls_ints, if_true, ct, wp_nil, List.set_cons_succ, List.set_cons_zero, kQ_fd hf7]
    refine WpR.mono (asked_ok hf7 ho (by omega) hl (rect W) (.inr ⟨o.take top, .inr (.inr rfl), wp⟩)) ?_
    rintro d os ⟨f8, rfl, rfl, hf8⟩
    simp [hf8]
  rintro w ⟨f7, hf7, rfl⟩
  refine wp_mid (fun w => ∃ f, ∃ L : List (List Int), Fd f ∧ Links n o L ∧ w = [some (.lst (ns.map .int)), some f, some (.int (n : Int)), some (.bl wide), some (.lst (o.map .int)), some (.int (top : Int)), some (.tup (rowsD L)), none, none, none, none]) ?_ ?_
  · simp [rc]
    refine lz_cmp (fun i acc w => ∃ f x, ∃ L : List (List Int), Fd f ∧ L.length = i ∧ (∀ p (hp : p < L.length), LinkP n o p L[p]) ∧ acc = rowsD L ∧ w = [some (.lst (ns.map .int)), some f, some (.int (n : Int)), some (.bl wide), some (.lst (o.map .int)), some (.int (top : Int)), none, none, none, x, none]) ⟨f7, none, [], hf7, rfl, (fun p hp => absurd hp (Nat.not_lt_zero _)), rfl, rfl⟩ ?_ ?_
    · rintro acc w ⟨f', x, L, hf', hl, hL, rfl, rfl⟩
      rw [rngD_len] at hl
      simp
      exact ⟨f', hf', L, ⟨hl, hL⟩, rfl, rfl⟩
    · rintro i d acc w hi ⟨f', x, L, hf', hl, hL, rfl, rfl⟩
      obtain ⟨rfl, hi2⟩ := toNat_range (n := (n : Int)) i (by simpa using hi)
      simp [hf']
      refine WpR.mono (link_ok hf' hO (by omega) (p := i) (by omega)) ?_
      rintro d os ⟨r, f8, rfl, rfl, hf8, hr⟩
      simp
      refine ⟨line' (by omega), f8, hf8, _, L ++ [r], by simp [hl], fun p hp => ?_, rowsD_one, rfl, rfl⟩
      by_cases c : p < L.length
      · rw [List.getElem_append_left c]; exact hL p c
      · have ep : p = L.length := by simp at hp; omega
        subst ep
        rw [List.getElem_append_right (Nat.le_refl _)]
        simp [hl]; exact hr
  rintro w ⟨f8, L, hf8, hL, rfl⟩
  have rectL : Rect n L := fun r m => by
    obtain ⟨p, hp, rfl⟩ := List.mem_iff_getElem.mp m
    exact (hL.2 p hp).1
  refine wp_mid (fun w => w = [some (.lst (ns.map .int)), some f8, some (.int (n : Int)), some (.bl wide), some (.lst (o.map .int)), some (.int (top : Int)), some (.tup (rowsD L)), none, none, none, none]) ?_ ?_
  · simp
    refine WpR.mono (strata_of_ok (by omega) (by rw [hL.1]; omega) rectL) ?_
    rintro d os ⟨rfl, rfl⟩
    rw [links_G ho hL]
    try simp
    refine cmp_filt D.int (fun i => D.tup [.int i]) o (fun _ => true) (by simp) (by omega) (fun i m => by simp) (fun i m _ => by simp) fun w2 e el => ?_
    have ef : (o.filter fun _ => true) = o := List.filter_eq_self.mpr fun _ _ => rfl
    have er : o.map (fun i => D.tup [.int i]) = rowsD (o.map fun i => [i]) := by unfold rowsD; rw [List.map_map]; rfl
    simp at e el
    rw [ef, er]
    simp [e, el]
    refine WpR.mono (same_sets_ok (S := o.map fun i => [i]) (.inr (.inr rfl)) (by simp; omega) fun m hm => by
      obtain ⟨i, _, rfl⟩ := List.mem_map.mp hm
      simp) ?_
    rintro d os ⟨rfl, rfl⟩
    simp
  rintro w rfl
  refine wp_mid (fun w => ∃ f, Fd f ∧ w = [some (.lst (ns.map .int)), some f, some (.int (n : Int)), some (.bl wide), some (.lst (o.map .int)), some (.int (top : Int)), some (.tup (rowsD L)), none, none, none, none]) ?_ ?_
  · simp [hf8]
    refine WpR.mono (any_rows_ok hf8 (by omega)) ?_
    rintro d os ⟨rows, f9, rfl, rfl, hf9, hl, hr⟩
    simp [hf9]
    refine WpR.mono (asked_ok hf9 ho (by omega) hl hr (.inl rfl)) ?_
    rintro d os ⟨f10, rfl, rfl, hf10⟩
    simp [hf10]
  rintro w ⟨f9, hf9, rfl⟩
  refine wp_mid (fun w => True) ?_ ?_
  · simp [show rngC 1 = true from rngC_of (by omega) (by omega), show rngC 7 = true from rngC_of (by omega) (by omega)]
    refine lz_for (fun i w => ∃ x7 x8, w = [some (.lst (ns.map .int)), some f9, some (.int (n : Int)), some (.bl wide), some (.lst (o.map .int)), some (.int (top : Int)), some (.tup (rowsD L)), x7, x8, none, none]) ⟨none, none, rfl⟩ ?_ ?_
    · rintro w ⟨x7, x8, rfl⟩
      simp
    · rintro i d w hi ⟨x7, x8, rfl⟩
      have hi6 : i < 6 := by have := (List.getElem?_eq_some_iff.mp hi).1; rw [rngD2_len] at this; exact this
      have ed := rngD2_get hi
      rw [show (1 : Int) + (i : Int) = ((i + 1 : Nat) : Int) by omega] at ed
      subst ed
      have k1 : 1 ≤ i + 1 := by omega
      have rt : Rect (i + 1) [] := fun r m => by cases m
      have lw : (intsTo (i + 1)).length = i + 1 := intsTo_len _
      have c1 : cutD ((intsTo (i + 1)).map D.int) none (some 1) = ((intsTo (i + 1)).take 1).map .int := by
        rw [show (1 : Int) = ((1 : Nat) : Int) from rfl, cutD_to, List.map_take]
      have c2 : cutD ((intsTo (i + 1)).map D.int) (some 1) none = ((intsTo (i + 1)).drop 1).map .int := by
        rw [show (1 : Int) = ((1 : Nat) : Int) from rfl, cutD_from, List.map_drop]
      simp only [lz_nm, List.length_cons, List.length_nil, List.set_cons_succ, List.set_cons_zero]
      refine ⟨by decide, ?_⟩
      refine wp_mid (fun w => w = [some (.lst (ns.map .int)), some f9, some (.int (n : Int)), some (.bl wide), some (.lst (o.map .int)), some (.int (top : Int)), some (.tup (rowsD L)), some (.int ((i + 1 : Nat) : Int)), some (.tup ((intsTo (i + 1)).map .int)), none, none]) ?_ ?_
      · simp only [lz_Set, lz_1g, lz_P, qV_eq, slot_succ, slot_zero, ob_some, pl_int, true_and, dRngT_int (show i + 1 ≤ 1000 by omega), List.length_cons, List.length_nil, List.set_cons_succ, List.set_cons_zero]
        exact ⟨by decide, trivial⟩
      rintro w rfl
      refine wp_mid (fun w => w = [some (.lst (ns.map .int)), some f9, some (.int (n : Int)), some (.bl wide), some (.lst (o.map .int)), some (.int (top : Int)), some (.tup (rowsD L)), some (.int ((i + 1 : Nat) : Int)), some (.tup ((intsTo (i + 1)).map .int)), none, none]) ?_ ?_
      · simp only [lz_If, lz_OrF, wp_NotF, lz_Tru, lz_Cal, wp_cons, lz_I, slot_succ, slot_zero, ob_some, iceQ_int, lz_tup, wp_nil, List.length_nil, line0, true_and, List.length_cons, iceQ_tup, pls_ints]
        refine WpR.mono (strata_of_ok (n := i + 1) (rows := []) (by omega) (by simp) rt) ?_
        rintro d os ⟨rfl, rfl⟩
        rw [G_none k1]
        simp only [putB_nil2, lz_I, lz_tup, wp_cons, wp_nil, slot_succ, slot_zero, ob_some, iceQ_tup, pls_ints, true_and, List.length_cons, List.length_nil]
        refine ⟨line1, WpR.mono (same_sets_ok (S := [intsTo (i + 1)]) (.inl rfl) (by simp) fun m hm => by rw [List.mem_singleton.mp hm, lw]; omega) ?_⟩
        rintro d os ⟨rfl, rfl⟩
        simp only [putB_nil2, truD_bl, ob_some, Bool.not_true, brQ_f, lz_Cal, wp_NotF, lz_Tru, wp_cons, lz_I, slot_succ, slot_zero, iceQ_int, lz_tup, wp_nil, List.length_nil, line0, true_and]
        refine WpR.mono (rest_of_ok (n := i + 1) (rows := []) (by omega) (by simp) rt) ?_
        rintro d os ⟨rfl, rfl⟩
        have er : ((intsTo (i + 1)).filter fun j => !(reachL (i + 1) []).contains j) = [] := by
          rw [reach_none k1]
          exact List.filter_eq_nil_iff.mpr fun j m => by simp [m]
        rw [er]
        simp only [putB_nil2, lz_tup, wp_nil, List.length_nil, line0, true_and]
        refine WpR.mono (same_ok (l := []) (.inl rfl) (by simp)) ?_
        rintro d os ⟨rfl, rfl⟩
        simp
      rintro w rfl
      simp only [lz_If, lz_OrF, wp_NotF, lz_Tru, lz_Cal, wp_cons, lz_I, slot_succ, slot_zero, ob_some, iceQ_int, lz_tup, wp_nil, List.length_nil, line0, true_and, List.length_cons, iceQ_tup, pls_ints]
      refine WpR.mono (reach_of_ok (n := i + 1) (rows := []) (by omega) (by simp) rt) ?_
      rintro d os ⟨rfl, rfl⟩
      rw [reach_none k1]
      simp only [putB_nil2, lz_I, wp_cons, wp_nil, slot_succ, slot_zero, ob_some, iceQ_tup, pls_ints, true_and]
      refine WpR.mono (same_ok (l := intsTo (i + 1)) (.inl rfl) (by rw [lw]; omega)) ?_
      rintro d os ⟨rfl, rfl⟩
      simp only [putB_nil2, truD_bl, ob_some, Bool.not_true, brQ_f, lz_Cal, wp_NotF, lz_Tru, wp_cons, lz_I, slot_succ, slot_zero, iceQ_int, lz_tup, wp_nil, List.length_nil, line0, true_and, lz_Slv, wp_bN, lz_bS, wp_C, intD_int, dSl_tup, pls_ints, if_true, c1]
      refine WpR.mono (free_rules_ok (n := i + 1) (rows := []) (s := (intsTo (i + 1)).take 1) (by omega) (by simp) rt fun j m => intsTo_mem.mp (List.mem_of_mem_take m)) ?_
      rintro d os ⟨rfl, rfl⟩
      rw [free_none, filt_head (intsTo_nd _)]
      simp only [putB_nil2, lz_Slv, slot_succ, slot_zero, ob_some, wp_bN, lz_bS, wp_C, intD_int, dSl_tup, pls_ints, if_true, c2, wp_nil]
      refine WpR.mono (same_ok (l := (intsTo (i + 1)).drop 1) (.inl rfl) (by rw [List.length_drop, lw]; omega)) ?_
      rintro d os ⟨rfl, rfl⟩
      simp
  · rintro w _
    simp
theorem law_sp {K : PySem.W.Frag} {H : Hp} {a : Addr} {ns : List Int} (ho : Only H) (h : SqL K H a (ns.map V.int)) : spP K 1 [] m_law [.ref a] H (fun v _ => v = .bl true) fun _ _ _ => False := by
  refine ⟨rfl, [.lst (ns.map .int)], [], RVs.one ⟨a, ns.map V.int, rfl, fz_of ho h, ints_rv ns, rfl⟩, .nil, ?_⟩
  obtain ⟨d, os, e, rfl, rfl⟩ := law_ok (ns := ns)
  rw [e]
  intro v H' F' st r nd
  obtain ⟨v', r', f, g, e1, q, t, e2⟩ := r
  cases e1
  exact q.1
end K16

set_option autoImplicit false
namespace K16
open PySem PySem.Spec L2 Pm PyProof.Rows
theorem all_mk {l : PySem.W.OpenLaw} {w : PySem.World} {K : PySem.W.Frag} {h : Heap} {mg : Str → Option Value} {fa f0 f1 f2 f3 f4 f5 f6 f7 f8 f9 f10 f11 f12 f13 f14 f15 f16 f17 f18 f19 f20 f21 f22 : Addr} (X : K.In h) (G : h.Ns mainGlobals mg) (hfa : mg "law" = some (.ref fa))
    {od0 an0 od1 an1 od2 an2 od3 an3 od4 an4 od5 an5 od6 an6 od7 an7 od8 an8 od9 an9 od10 an10 od11 an11 od12 an12 od13 an13 od14 an14 od15 an15 od16 an16 od17 an17 od18 an18 od19 an19 od20 an20 od21 an21 od22 an22 : Option Addr} {sl0 sl1 sl2 sl3 sl4 sl5 sl6 sl7 sl8 sl9 sl10 sl11 sl12 sl13 sl14 sl15 sl16 sl17 sl18 sl19 sl20 sl21 sl22 : Array (Option Value)} {oc0 kV0 dc0 pm0 cd0 ct0 oc1 kV1 dc1 pm1 cd1 ct1 oc2 kV2 dc2 pm2 cd2 ct2 oc3 kV3 dc3 pm3 cd3 ct3 oc4 kV4 dc4 pm4 cd4 ct4 oc5 kV5 dc5 pm5 cd5 ct5 oc6 kV6 dc6 pm6 cd6 ct6 oc7 kV7 dc7 pm7 cd7 ct7 oc8 kV8 dc8 pm8 cd8 ct8 oc9 kV9 dc9 pm9 cd9 ct9 oc10 kV10 dc10 pm10 cd10 ct10 oc11 kV11 dc11 pm11 cd11 ct11 oc12 kV12 dc12 pm12 cd12 ct12 oc13 kV13 dc13 pm13 cd13 ct13 oc14 kV14 dc14 pm14 cd14 ct14 oc15 kV15 dc15 pm15 cd15 ct15 oc16 kV16 dc16 pm16 cd16 ct16 oc17 kV17 dc17 pm17 cd17 ct17 oc18 kV18 dc18 pm18 cd18 ct18 oc19 kV19 dc19 pm19 cd19 ct19 oc20 kV20 dc20 pm20 cd20 ct20 oc21 kV21 dc21 pm21 cd21 ct21 oc22 kV22 dc22 pm22 cd22 ct22 : Value}
    (a0 : PySem.W.nsIn K mainGlobals "is_nought" = some (some (.ref f0))) (l0 : K.lookup f0 = some ⟨oc0, od0, .func (PySem.W.fnOf "is_nought" "is_nought" (defArgs s_is_nought) (defBody s_is_nought) (defScope s_is_nought) .none kV0 dc0 pm0 an0 cd0 ct0), sl0⟩) (c0 : PySem.W.codeIn K cd0 "is_nought" = true) (k0 : PySem.W.keepIn K (.ref f0) = true)
    (a1 : PySem.W.nsIn K mainGlobals "_law_feed" = some (some (.ref f1))) (l1 : K.lookup f1 = some ⟨oc1, od1, .func (PySem.W.fnOf "_law_feed" "_law_feed" (defArgs s_law_feed) (defBody s_law_feed) (defScope s_law_feed) .none kV1 dc1 pm1 an1 cd1 ct1), sl1⟩) (c1 : PySem.W.codeIn K cd1 "_law_feed" = true) (k1 : PySem.W.keepIn K (.ref f1) = true)
    (a2 : PySem.W.nsIn K mainGlobals "_law_draw" = some (some (.ref f2))) (l2 : K.lookup f2 = some ⟨oc2, od2, .func (PySem.W.fnOf "_law_draw" "_law_draw" (defArgs s_law_draw) (defBody s_law_draw) (defScope s_law_draw) .none kV2 dc2 pm2 an2 cd2 ct2), sl2⟩) (c2 : PySem.W.codeIn K cd2 "_law_draw" = true) (k2 : PySem.W.keepIn K (.ref f2) = true)
    (a3 : PySem.W.nsIn K mainGlobals "_law_nought" = some (some (.ref f3))) (l3 : K.lookup f3 = some ⟨oc3, od3, .func (PySem.W.fnOf "_law_nought" "_law_nought" (defArgs s_law_nought) (defBody s_law_nought) (defScope s_law_nought) .none kV3 dc3 pm3 an3 cd3 ct3), sl3⟩) (c3 : PySem.W.codeIn K cd3 "_law_nought" = true) (k3 : PySem.W.keepIn K (.ref f3) = true)
    (a4 : PySem.W.nsIn K mainGlobals "_law_same" = some (some (.ref f4))) (l4 : K.lookup f4 = some ⟨oc4, od4, .func (PySem.W.fnOf "_law_same" "_law_same" (defArgs s_law_same) (defBody s_law_same) (defScope s_law_same) .none kV4 dc4 pm4 an4 cd4 ct4), sl4⟩) (c4 : PySem.W.codeIn K cd4 "_law_same" = true) (k4 : PySem.W.keepIn K (.ref f4) = true)
    (a5 : PySem.W.nsIn K mainGlobals "free_rules" = some (some (.ref f5))) (l5 : K.lookup f5 = some ⟨oc5, od5, .func (PySem.W.fnOf "free_rules" "free_rules" (defArgs s_free_rules) (defBody s_free_rules) (defScope s_free_rules) .none kV5 dc5 pm5 an5 cd5 ct5), sl5⟩) (c5 : PySem.W.codeIn K cd5 "free_rules" = true) (k5 : PySem.W.keepIn K (.ref f5) = true)
    (a6 : PySem.W.nsIn K mainGlobals "_law_shuffled" = some (some (.ref f6))) (l6 : K.lookup f6 = some ⟨oc6, od6, .func (PySem.W.fnOf "_law_shuffled" "_law_shuffled" (defArgs s_law_shuffled) (defBody s_law_shuffled) (defScope s_law_shuffled) .none kV6 dc6 pm6 an6 cd6 ct6), sl6⟩) (c6 : PySem.W.codeIn K cd6 "_law_shuffled" = true) (k6 : PySem.W.keepIn K (.ref f6) = true)
    (a7 : PySem.W.nsIn K mainGlobals "_law_size" = some (some (.ref f7))) (l7 : K.lookup f7 = some ⟨oc7, od7, .func (PySem.W.fnOf "_law_size" "_law_size" (defArgs s_law_size) (defBody s_law_size) (defScope s_law_size) .none kV7 dc7 pm7 an7 cd7 ct7), sl7⟩) (c7 : PySem.W.codeIn K cd7 "_law_size" = true) (k7 : PySem.W.keepIn K (.ref f7) = true)
    (a8 : PySem.W.nsIn K mainGlobals "_law_free" = some (some (.ref f8))) (l8 : K.lookup f8 = some ⟨oc8, od8, .func (PySem.W.fnOf "_law_free" "_law_free" (defArgs s_law_free) (defBody s_law_free) (defScope s_law_free) .none kV8 dc8 pm8 an8 cd8 ct8), sl8⟩) (c8 : PySem.W.codeIn K cd8 "_law_free" = true) (k8 : PySem.W.keepIn K (.ref f8) = true)
    (a9 : PySem.W.nsIn K mainGlobals "_law_same_sets" = some (some (.ref f9))) (l9 : K.lookup f9 = some ⟨oc9, od9, .func (PySem.W.fnOf "_law_same_sets" "_law_same_sets" (defArgs s_law_same_sets) (defBody s_law_same_sets) (defScope s_law_same_sets) .none kV9 dc9 pm9 an9 cd9 ct9), sl9⟩) (c9 : PySem.W.codeIn K cd9 "_law_same_sets" = true) (k9 : PySem.W.keepIn K (.ref f9) = true)
    (a10 : PySem.W.nsIn K mainGlobals "strata_of" = some (some (.ref f10))) (l10 : K.lookup f10 = some ⟨oc10, od10, .func (PySem.W.fnOf "strata_of" "strata_of" (defArgs s_strata_of) (defBody s_strata_of) (defScope s_strata_of) .none kV10 dc10 pm10 an10 cd10 ct10), sl10⟩) (c10 : PySem.W.codeIn K cd10 "strata_of" = true) (k10 : PySem.W.keepIn K (.ref f10) = true)
    (a11 : PySem.W.nsIn K mainGlobals "_law_lead" = some (some (.ref f11))) (l11 : K.lookup f11 = some ⟨oc11, od11, .func (PySem.W.fnOf "_law_lead" "_law_lead" (defArgs s_law_lead) (defBody s_law_lead) (defScope s_law_lead) .none kV11 dc11 pm11 an11 cd11 ct11), sl11⟩) (c11 : PySem.W.codeIn K cd11 "_law_lead" = true) (k11 : PySem.W.keepIn K (.ref f11) = true)
    (a12 : PySem.W.nsIn K mainGlobals "_law_link" = some (some (.ref f12))) (l12 : K.lookup f12 = some ⟨oc12, od12, .func (PySem.W.fnOf "_law_link" "_law_link" (defArgs s_law_link) (defBody s_law_link) (defScope s_law_link) .none kV12 dc12 pm12 an12 cd12 ct12), sl12⟩) (c12 : PySem.W.codeIn K cd12 "_law_link" = true) (k12 : PySem.W.keepIn K (.ref f12) = true)
    (a13 : PySem.W.nsIn K mainGlobals "_law_plain" = some (some (.ref f13))) (l13 : K.lookup f13 = some ⟨oc13, od13, .func (PySem.W.fnOf "_law_plain" "_law_plain" (defArgs s_law_plain) (defBody s_law_plain) (defScope s_law_plain) .none kV13 dc13 pm13 an13 cd13 ct13), sl13⟩) (c13 : PySem.W.codeIn K cd13 "_law_plain" = true) (k13 : PySem.W.keepIn K (.ref f13) = true)
    (a14 : PySem.W.nsIn K mainGlobals "_law_bar_row" = some (some (.ref f14))) (l14 : K.lookup f14 = some ⟨oc14, od14, .func (PySem.W.fnOf "_law_bar_row" "_law_bar_row" (defArgs s_law_bar_row) (defBody s_law_bar_row) (defScope s_law_bar_row) .none kV14 dc14 pm14 an14 cd14 ct14), sl14⟩) (c14 : PySem.W.codeIn K cd14 "_law_bar_row" = true) (k14 : PySem.W.keepIn K (.ref f14) = true)
    (a15 : PySem.W.nsIn K mainGlobals "_law_any_rows" = some (some (.ref f15))) (l15 : K.lookup f15 = some ⟨oc15, od15, .func (PySem.W.fnOf "_law_any_rows" "_law_any_rows" (defArgs s_law_any_rows) (defBody s_law_any_rows) (defScope s_law_any_rows) .none kV15 dc15 pm15 an15 cd15 ct15), sl15⟩) (c15 : PySem.W.codeIn K cd15 "_law_any_rows" = true) (k15 : PySem.W.keepIn K (.ref f15) = true)
    (a16 : PySem.W.nsIn K mainGlobals "_law_strata" = some (some (.ref f16))) (l16 : K.lookup f16 = some ⟨oc16, od16, .func (PySem.W.fnOf "_law_strata" "_law_strata" (defArgs s_law_strata) (defBody s_law_strata) (defScope s_law_strata) .none kV16 dc16 pm16 an16 cd16 ct16), sl16⟩) (c16 : PySem.W.codeIn K cd16 "_law_strata" = true) (k16 : PySem.W.keepIn K (.ref f16) = true)
    (a17 : PySem.W.nsIn K mainGlobals "_law_frees" = some (some (.ref f17))) (l17 : K.lookup f17 = some ⟨oc17, od17, .func (PySem.W.fnOf "_law_frees" "_law_frees" (defArgs s_law_frees) (defBody s_law_frees) (defScope s_law_frees) .none kV17 dc17 pm17 an17 cd17 ct17), sl17⟩) (c17 : PySem.W.codeIn K cd17 "_law_frees" = true) (k17 : PySem.W.keepIn K (.ref f17) = true)
    (a18 : PySem.W.nsIn K mainGlobals "reach_of" = some (some (.ref f18))) (l18 : K.lookup f18 = some ⟨oc18, od18, .func (PySem.W.fnOf "reach_of" "reach_of" (defArgs s_reach_of) (defBody s_reach_of) (defScope s_reach_of) .none kV18 dc18 pm18 an18 cd18 ct18), sl18⟩) (c18 : PySem.W.codeIn K cd18 "reach_of" = true) (k18 : PySem.W.keepIn K (.ref f18) = true)
    (a19 : PySem.W.nsIn K mainGlobals "_law_world" = some (some (.ref f19))) (l19 : K.lookup f19 = some ⟨oc19, od19, .func (PySem.W.fnOf "_law_world" "_law_world" (defArgs s_law_world) (defBody s_law_world) (defScope s_law_world) .none kV19 dc19 pm19 an19 cd19 ct19), sl19⟩) (c19 : PySem.W.codeIn K cd19 "_law_world" = true) (k19 : PySem.W.keepIn K (.ref f19) = true)
    (a20 : PySem.W.nsIn K mainGlobals "rest_of" = some (some (.ref f20))) (l20 : K.lookup f20 = some ⟨oc20, od20, .func (PySem.W.fnOf "rest_of" "rest_of" (defArgs s_rest_of) (defBody s_rest_of) (defScope s_rest_of) .none kV20 dc20 pm20 an20 cd20 ct20), sl20⟩) (c20 : PySem.W.codeIn K cd20 "rest_of" = true) (k20 : PySem.W.keepIn K (.ref f20) = true)
    (a21 : PySem.W.nsIn K mainGlobals "_law_asked" = some (some (.ref f21))) (l21 : K.lookup f21 = some ⟨oc21, od21, .func (PySem.W.fnOf "_law_asked" "_law_asked" (defArgs s_law_asked) (defBody s_law_asked) (defScope s_law_asked) .none kV21 dc21 pm21 an21 cd21 ct21), sl21⟩) (c21 : PySem.W.codeIn K cd21 "_law_asked" = true) (k21 : PySem.W.keepIn K (.ref f21) = true)
    (a22 : PySem.W.nsIn K mainGlobals "law" = some (some (.ref f22))) (l22 : K.lookup f22 = some ⟨oc22, od22, .func (PySem.W.fnOf "law" "law" (defArgs s_law) (defBody s_law) (defScope s_law) .none kV22 dc22 pm22 an22 cd22 ct22), sl22⟩) (c22 : PySem.W.codeIn K cd22 "law" = true) (k22 : PySem.W.keepIn K (.ref f22) = true)
    (z_bool : PySem.W.nsIn K mainGlobals "bool" = some none)
    (z_int : PySem.W.nsIn K mainGlobals "int" = some none)
    (z_isinstance : PySem.W.nsIn K mainGlobals "isinstance" = some none)
    (z_len : PySem.W.nsIn K mainGlobals "len" = some none)
    (z_list : PySem.W.nsIn K mainGlobals "list" = some none)
    (z_range : PySem.W.nsIn K mainGlobals "range" = some none)
    (z_sorted : PySem.W.nsIn K mainGlobals "sorted" = some none)
    (z_tuple : PySem.W.nsIn K mainGlobals "tuple" = some none)
    : ∃ fd : FuncData, (∀ (s : Shared) (v : Value), BindsTo s fd ⟨[v], []⟩ [("script", v)]) ∧ ∀ base : Heap, K.In base → base.Ns mainGlobals mg → FnOk l.prog w K mg base CX0 7 fa fd ["script"] (spP K 1 [] m_law) := by
  have e := hfa.symm.trans (PySem.W.mg_of X G a22)
  cases e
  have F0 := fun_mk (st := s_is_nought) l0 c0 k0
  have b0 := F0.binds (ps := ["row", "some"]) fun _ _ _ _ _ _ us hl => match us, hl with | [_, _], _ => rfl
  have F1 := fun_mk (st := s_law_feed) l1 c1 k1
  have b1 := F1.binds (ps := ["script"]) fun _ _ _ _ _ _ us hl => match us, hl with | [_], _ => rfl
  have F2 := fun_mk (st := s_law_draw) l2 c2 k2
  have b2 := F2.binds (ps := ["feed", "many"]) fun _ _ _ _ _ _ us hl => match us, hl with | [_, _], _ => rfl
  have F3 := fun_mk (st := s_law_nought) l3 c3 k3
  have b3 := F3.binds (ps := ["row", "some"]) fun _ _ _ _ _ _ us hl => match us, hl with | [_, _], _ => rfl
  have F4 := fun_mk (st := s_law_same) l4 c4 k4
  have b4 := F4.binds (ps := ["told", "due"]) fun _ _ _ _ _ _ us hl => match us, hl with | [_, _], _ => rfl
  have F5 := fun_mk (st := s_free_rules) l5 c5 k5
  have b5 := F5.binds (ps := ["many", "rows", "some"]) fun _ _ _ _ _ _ us hl => match us, hl with | [_, _, _], _ => rfl
  have F6 := fun_mk (st := s_law_shuffled) l6 c6 k6
  have b6 := F6.binds (ps := ["feed", "things"]) fun _ _ _ _ _ _ us hl => match us, hl with | [_, _], _ => rfl
  have F7 := fun_mk (st := s_law_size) l7 c7 k7
  have b7 := F7.binds (ps := ["feed"]) fun _ _ _ _ _ _ us hl => match us, hl with | [_], _ => rfl
  have F8 := fun_mk (st := s_law_free) l8 c8 k8
  have b8 := F8.binds (ps := ["many", "rows", "some"]) fun _ _ _ _ _ _ us hl => match us, hl with | [_, _, _], _ => rfl
  have F9 := fun_mk (st := s_law_same_sets) l9 c9 k9
  have b9 := F9.binds (ps := ["told", "due"]) fun _ _ _ _ _ _ us hl => match us, hl with | [_, _], _ => rfl
  have F10 := fun_mk (st := s_strata_of) l10 c10 k10
  have b10 := F10.binds (ps := ["many", "rows"]) fun _ _ _ _ _ _ us hl => match us, hl with | [_, _], _ => rfl
  have F11 := fun_mk (st := s_law_lead) l11 c11 k11
  have b11 := F11.binds (ps := ["feed", "order", "place", "sign"]) fun _ _ _ _ _ _ us hl => match us, hl with | [_, _, _, _], _ => rfl
  have F12 := fun_mk (st := s_law_link) l12 c12 k12
  have b12 := F12.binds (ps := ["feed", "order", "place"]) fun _ _ _ _ _ _ us hl => match us, hl with | [_, _, _], _ => rfl
  have F13 := fun_mk (st := s_law_plain) l13 c13 k13
  have b13 := F13.binds (ps := ["feed", "many"]) fun _ _ _ _ _ _ us hl => match us, hl with | [_, _], _ => rfl
  have F14 := fun_mk (st := s_law_bar_row) l14 c14 k14
  have b14 := F14.binds (ps := ["feed", "order", "top", "rule"]) fun _ _ _ _ _ _ us hl => match us, hl with | [_, _, _, _], _ => rfl
  have F15 := fun_mk (st := s_law_any_rows) l15 c15 k15
  have b15 := F15.binds (ps := ["feed", "many"]) fun _ _ _ _ _ _ us hl => match us, hl with | [_, _], _ => rfl
  have F16 := fun_mk (st := s_law_strata) l16 c16 k16
  have b16 := F16.binds (ps := ["many", "rows"]) fun _ _ _ _ _ _ us hl => match us, hl with | [_, _], _ => rfl
  have F17 := fun_mk (st := s_law_frees) l17 c17 k17
  have b17 := F17.binds (ps := ["feed", "order", "rows"]) fun _ _ _ _ _ _ us hl => match us, hl with | [_, _, _], _ => rfl
  have F18 := fun_mk (st := s_reach_of) l18 c18 k18
  have b18 := F18.binds (ps := ["many", "rows"]) fun _ _ _ _ _ _ us hl => match us, hl with | [_, _], _ => rfl
  have F19 := fun_mk (st := s_law_world) l19 c19 k19
  have b19 := F19.binds (ps := ["feed", "order", "top", "wide"]) fun _ _ _ _ _ _ us hl => match us, hl with | [_, _, _, _], _ => rfl
  have F20 := fun_mk (st := s_rest_of) l20 c20 k20
  have b20 := F20.binds (ps := ["many", "rows"]) fun _ _ _ _ _ _ us hl => match us, hl with | [_, _], _ => rfl
  have F21 := fun_mk (st := s_law_asked) l21 c21 k21
  have b21 := F21.binds (ps := ["feed", "order", "rows", "reach"]) fun _ _ _ _ _ _ us hl => match us, hl with | [_, _, _, _], _ => rfl
  have F22 := fun_mk (st := s_law) l22 c22 k22
  have b22 := F22.binds (ps := ["script"]) fun _ _ _ _ _ _ us hl => match us, hl with | [_], _ => rfl
  exact ⟨_, fun s v => .of_eq rfl, fun base _ _ => ok_law (⟨⟨_, _, F0, b0, PySem.W.mg_of X G a0⟩,
    ⟨_, _, F1, b1, PySem.W.mg_of X G a1⟩,
    ⟨_, _, F2, b2, PySem.W.mg_of X G a2⟩,
    ⟨_, _, F3, b3, PySem.W.mg_of X G a3⟩,
    ⟨_, _, F4, b4, PySem.W.mg_of X G a4⟩,
    ⟨_, _, F5, b5, PySem.W.mg_of X G a5⟩,
    ⟨_, _, F6, b6, PySem.W.mg_of X G a6⟩,
    ⟨_, _, F7, b7, PySem.W.mg_of X G a7⟩,
    ⟨_, _, F8, b8, PySem.W.mg_of X G a8⟩,
    ⟨_, _, F9, b9, PySem.W.mg_of X G a9⟩,
    ⟨_, _, F10, b10, PySem.W.mg_of X G a10⟩,
    ⟨_, _, F11, b11, PySem.W.mg_of X G a11⟩,
    ⟨_, _, F12, b12, PySem.W.mg_of X G a12⟩,
    ⟨_, _, F13, b13, PySem.W.mg_of X G a13⟩,
    ⟨_, _, F14, b14, PySem.W.mg_of X G a14⟩,
    ⟨_, _, F15, b15, PySem.W.mg_of X G a15⟩,
    ⟨_, _, F16, b16, PySem.W.mg_of X G a16⟩,
    ⟨_, _, F17, b17, PySem.W.mg_of X G a17⟩,
    ⟨_, _, F18, b18, PySem.W.mg_of X G a18⟩,
    ⟨_, _, F19, b19, PySem.W.mg_of X G a19⟩,
    ⟨_, _, F20, b20, PySem.W.mg_of X G a20⟩,
    ⟨_, _, F21, b21, PySem.W.mg_of X G a21⟩,
    ⟨_, _, F22, b22, PySem.W.mg_of X G a22⟩,
    PySem.W.mg_none_of X G z_bool,
    PySem.W.mg_none_of X G z_int,
    PySem.W.mg_none_of X G z_isinstance,
    PySem.W.mg_none_of X G z_len,
    PySem.W.mg_none_of X G z_list,
    PySem.W.mg_none_of X G z_range,
    PySem.W.mg_none_of X G z_sorted,
    PySem.W.mg_none_of X G z_tuple⟩ : Top K mg) 0⟩
end K16
open PySem PySem.W PyProof.Rows
set_option maxHeartbeats 0 in
theorem PySem.Challenge.cw_nowhereworse_k16_free_and_strata_holds : PySem.Challenge.rw_nowhereworse_k16_free_and_strata.Holds := by
  w_on; o_law; k_head; (case hw => w_witness2)
  k_fill
  refine L2.walk_of (l := PySem.Challenge.rw_nowhereworse_k16_free_and_strata) (n := 63) (k := 7) (x := "script") (CX := fun _ => L2.CX0) (sp := fun w => Pm.spP _ 1 [] K16.m_law) rfl (by decide) rfl ⟨rfl, by decide, by decide⟩ (fun w h Y => PySem.W.kIn_of Y) ?F (fun _ _ a ns hl ho hS => K16.law_sp ho hS) (fun _ _ _ _ _ h => h)
  case F =>
    intro w mg fa h KX G hmg
    refine' K16.all_mk KX G hmg ?a0 ?l0 ?c0 ?k0 ?a1 ?l1 ?c1 ?k1 ?a2 ?l2 ?c2 ?k2 ?a3 ?l3 ?c3 ?k3 ?a4 ?l4 ?c4 ?k4 ?a5 ?l5 ?c5 ?k5 ?a6 ?l6 ?c6 ?k6 ?a7 ?l7 ?c7 ?k7 ?a8 ?l8 ?c8 ?k8 ?a9 ?l9 ?c9 ?k9 ?a10 ?l10 ?c10 ?k10 ?a11 ?l11 ?c11 ?k11 ?a12 ?l12 ?c12 ?k12 ?a13 ?l13 ?c13 ?k13 ?a14 ?l14 ?c14 ?k14 ?a15 ?l15 ?c15 ?k15 ?a16 ?l16 ?c16 ?k16 ?a17 ?l17 ?c17 ?k17 ?a18 ?l18 ?c18 ?k18 ?a19 ?l19 ?c19 ?k19 ?a20 ?l20 ?c20 ?k20 ?a21 ?l21 ?c21 ?k21 ?a22 ?l22 ?c22 ?k22 ?z_bool ?z_int ?z_isinstance ?z_len ?z_list ?z_range ?z_sorted ?z_tuple
    (case a0 => k_is); (case l0 => k_is); (case c0 => k_is); (case k0 => k_is); (case a1 => k_is); (case l1 => k_is); (case c1 => k_is); (case k1 => k_is); (case a2 => k_is); (case l2 => k_is); (case c2 => k_is); (case k2 => k_is); (case a3 => k_is); (case l3 => k_is); (case c3 => k_is); (case k3 => k_is); (case a4 => k_is); (case l4 => k_is); (case c4 => k_is); (case k4 => k_is); (case a5 => k_is); (case l5 => k_is); (case c5 => k_is); (case k5 => k_is); (case a6 => k_is); (case l6 => k_is); (case c6 => k_is); (case k6 => k_is); (case a7 => k_is); (case l7 => k_is); (case c7 => k_is); (case k7 => k_is); (case a8 => k_is); (case l8 => k_is); (case c8 => k_is); (case k8 => k_is); (case a9 => k_is); (case l9 => k_is); (case c9 => k_is); (case k9 => k_is); (case a10 => k_is); (case l10 => k_is); (case c10 => k_is); (case k10 => k_is); (case a11 => k_is); (case l11 => k_is); (case c11 => k_is); (case k11 => k_is); (case a12 => k_is); (case l12 => k_is); (case c12 => k_is); (case k12 => k_is); (case a13 => k_is); (case l13 => k_is); (case c13 => k_is); (case k13 => k_is); (case a14 => k_is); (case l14 => k_is); (case c14 => k_is); (case k14 => k_is); (case a15 => k_is); (case l15 => k_is); (case c15 => k_is); (case k15 => k_is); (case a16 => k_is); (case l16 => k_is); (case c16 => k_is); (case k16 => k_is); (case a17 => k_is); (case l17 => k_is); (case c17 => k_is); (case k17 => k_is); (case a18 => k_is); (case l18 => k_is); (case c18 => k_is); (case k18 => k_is); (case a19 => k_is); (case l19 => k_is); (case c19 => k_is); (case k19 => k_is); (case a20 => k_is); (case l20 => k_is); (case c20 => k_is); (case k20 => k_is); (case a21 => k_is); (case l21 => k_is); (case c21 => k_is); (case k21 => k_is); (case a22 => k_is); (case l22 => k_is); (case c22 => k_is); (case k22 => k_is); (case z_bool => k_is); (case z_int => k_is); (case z_isinstance => k_is); (case z_len => k_is); (case z_list => k_is); (case z_range => k_is); (case z_sorted => k_is); (case z_tuple => k_is)
